-- merged and pruned by prune.py (the session's own program); its words go back to the kit's print
import Derived.Test.YtefhljhpcpajgaaProg
import Derived.Below
import Derived.Deep.Draws
import Derived.Deep.AppendLies
import Derived.Maps.AppendAt
import Derived.OwnWalk
import Derived.Laws.BytesArg
import Derived.Laws.MakeOwn
import Derived.Laws.OwnMore
import Derived.Deep.OwnRows
import Derived.Tactics
import Derived.Lib.ConvBytes
import Derived.Laws.Slices
import Derived.WalkKit
import Derived.KernelRfl
import Derived.RowKit3
import Derived.Deep.LoopGhost
import Derived.Deep.QuietTactic
import Derived.BigQuiet
import Derived.WideLaws
import Derived.Deep.DeepCutAuto
import Derived.Deep.CutBlock
import Derived.Deep.RegionHeld3
import Derived.Laws.Rows
import Derived.Lib.AppendStr
import Derived.ArgAppend
import Derived.Laws.IdiomCopy
import Derived.OrdersHeld
import Derived.Laws.BitsLemmas
import Derived.RowKit
import Derived.Laws.StructEq
import Derived.Deep.RegionLawGrows
import Derived.Lib.SliceRun
import Derived.Shelf.SlSortCmp.Insertion1
import Derived.Shelf.Small.Bits
import Derived.Shelf.Utf8.RuneCount
import Derived.Shelf.Strconv.Itoa0
import Derived.Shelf.Strings.Prefix
import Derived.Shelf.Strings.RuneCount
import Derived.Shelf.Bits.Mul64
import Derived.Ground.Names2Prog
import Derived.Shelf.Slices.SearchI
import Derived.Ground.SlsfProg
import Derived.Shelf.SlSortCmp.Insertion
import Derived.Sort.LotA
import Derived.Sort.OwnSortedInts
import Derived.Test.YtefhljhpcpajgaaZValueBounds3
namespace Go.Proofs.Ytefhljhpcpajgaa.F
open Go.Sort Go.Shelf Go.Lib
open Go.RowKit Go.Proofs.YtefhljhpcpajgaaX Go.Proofs.YtefhljhpcpajgaaW.PrintWords Go.Proofs.YtefhljhpcpajgaaW.PrintLast Go.Proofs.YtefhljhpcpajgaaW.PrintMore
set_option maxHeartbeats 8000000 in
set_option maxRecDepth 100000 in
theorem share_key.calls (rb : Nat) (A : Option Addr) (c : Nat) (l : List Int) (i : Nat) (w : World) (hi : i < l.length) (hb : w.cell? ⟨rb, 0, none⟩ = some (.slice A l.length c)) (hr : Kd.C (Kd.int .i64) w A l.length l) :
    Calls Try.prog 109 #[.int .i64 (i : Int), .pointer (some ⟨rb, 0, none⟩)] w fun e w' => e = .returned (.int .i64 l[i]) ∧ ∃ q, w' = w.drewN q := by
  have p101 : 0 ≤ (i : Int) := by omega
  have q101 : (i : Int) < (l.length : Int) := by omega
  obtain ⟨ad101, e101, hx101_0⟩ := Kd.at_int hr (i : Int) p101 q101
  cases e101
  have hrd : rd l (i : Int) = l[i] := by unfold rd; simp [List.getD_eq_getElem?_getD, hi]
  rw [hrd] at hx101_0
  simp only [Int.toNat_natCast] at hx101_0
  replace p101 := eq_true p101
  replace q101 := eq_true q101
  go_enter Try.func109, Try.ntmps109
  go_wp2
  go_ret
  exact ⟨rfl, 0, rfl⟩
set_option maxHeartbeats 8000000 in
set_option maxRecDepth 100000 in
theorem cmp_nan.calls (x : Int) (w : World) : Calls Try.prog 149 #[.int .i64 x] w fun e w' => e = .returned (.bool false) ∧ ∃ q, w' = w.drewN q := by
  go_enter Try.func149, Try.ntmps149
  go_wp2
  go_ret
  exact ⟨by simp, 0, rfl⟩
def cmpI (x y : Int) : Int := if x < y then -1 else if x > y then 1 else 0
set_option maxHeartbeats 8000000 in
set_option maxRecDepth 100000 in
theorem cmp_int.calls (x y : Int) (w : World) : Calls Try.prog 140 #[.int .i64 x, .int .i64 y] w fun e w' => e = .returned (.int .i64 (cmpI x y)) ∧ ∃ q, w' = w.drewN q := by
  unfold cmpI
  go_enter Try.func140, Try.ntmps140
  have hb1 : (if x < y then (-1 : Int) else if x > y then 1 else 0) = if x < y then -1 else if x > y then 1 else 0 := rfl
  by_cases h1 : x < y
  · rw [if_pos h1]
    have h1b : decide (x < y) = true := decide_eq_true h1
    go_wp2
    repeat (go_quiet (first | (go_at_call 149; (with_reducible refine (cmp_nan.calls _ _).mono ?_); rintro e w' ⟨rfl, ⟨nd, rfl⟩⟩; (try first | exact ⟨rfl, _, World.drewN_drewN _ _ _⟩ | exact ⟨rfl, _, rfl⟩))); try go_wp2)
    go_ret
    exact ⟨rfl, 0, rfl⟩
  · rw [if_neg h1]
    have h1b : decide (x < y) = false := decide_eq_false h1
    by_cases h2 : y < x
    · rw [if_pos h2]
      have h2b : decide (y < x) = true := decide_eq_true h2
      go_wp2
      repeat (go_quiet (first | (go_at_call 149; (with_reducible refine (cmp_nan.calls _ _).mono ?_); rintro e w' ⟨rfl, ⟨nd, rfl⟩⟩; (try first | exact ⟨rfl, _, World.drewN_drewN _ _ _⟩ | exact ⟨rfl, _, rfl⟩))); try go_wp2)
      go_ret
      exact ⟨rfl, 0, rfl⟩
    · rw [if_neg h2]
      have h2b : decide (y < x) = false := decide_eq_false h2
      go_wp2
      repeat (go_quiet (first | (go_at_call 149; (with_reducible refine (cmp_nan.calls _ _).mono ?_); rintro e w' ⟨rfl, ⟨nd, rfl⟩⟩; (try first | exact ⟨rfl, _, World.drewN_drewN _ _ _⟩ | exact ⟨rfl, _, rfl⟩))); try go_wp2)
      go_ret
      exact ⟨rfl, 0, rfl⟩
set_option maxHeartbeats 8000000 in
set_option maxRecDepth 100000 in
theorem share_cmp.calls (kb rb : Nat) (A : Option Addr) (c : Nat) (l : List Int) (x y : Nat) (w : World) (hx : x < l.length) (hy : y < l.length) (hk : w.cell? ⟨kb, 0, none⟩ = some (.func (.func 109) #[] #[.pointer (some ⟨rb, 0, none⟩)])) (hb : w.cell? ⟨rb, 0, none⟩ = some (.slice A l.length c)) (hr : Kd.C (Kd.int .i64) w A l.length l) :
    Calls Try.prog 139 #[.int .i64 (x : Int), .int .i64 (y : Int), .pointer (some ⟨kb, 0, none⟩)] w fun e w' => e = .returned (.int .i64 (cmpI l[y] l[x])) ∧ ∃ q, w' = w.drewN q := by
  have HK := Aside0.mk hk
  have HB := Aside0.mk hb
  have HR := Aside0.mk hr
  clear hb hr
  go_enter Try.func139, Try.ntmps139
  go_wp2
  repeat (go_quiet (first | (go_at_call 109; (with_reducible refine (share_key.calls rb A c l _ _ ?s0 ?s1 ?s2).mono ?_); (case s0 => assumption); (case s1 => exact HB.out); (case s2 => repeat (first | exact HR.out | (with_reducible refine Kd.C_drewN ?_ _) | (with_reducible refine Kd.C_drew ?_))); rintro e w' ⟨rfl, ⟨nd, rfl⟩⟩; (try first | exact ⟨rfl, _, World.drewN_drewN _ _ _⟩ | exact ⟨rfl, _, rfl⟩)) | (go_at_call 140; (with_reducible refine (cmp_int.calls _ _ _).mono ?_); rintro e w' ⟨rfl, ⟨nd, rfl⟩⟩; (try first | exact ⟨rfl, _, World.drewN_drewN _ _ _⟩ | exact ⟨rfl, _, rfl⟩))); try go_wp2)
  go_ret
  exact ⟨rfl, _, rfl⟩
open Go.Sort Go.Shelf Go.Lib in
theorem sorted_heap {α : Type} [Inhabited α] (enc : α → Value) (w : World) (blk off m : Nat) (dk : Array α) (os : Array Obj) (k : Nat) (hk : k < w.heap.size) (hne : k ≠ blk) : (sortWorld enc w blk off m dk os).heap[k]? = w.heap[k]? := by
  unfold sortWorld grow putRow mapBlock
  show ((Array.modify w.heap blk _) ++ os)[k]? = _
  rw [Array.getElem?_append_left (by simpa using hk), Array.getElem?_modify, if_neg (fun e => hne e.symm)]
open Go.Sort Go.Shelf Go.Lib in
theorem sorted_below {α : Type} [Inhabited α] (enc : α → Value) {w0 w : World} {B blk off m : Nat} {dk : Array α} {os : Array Obj} (hB : Below B w0 w) (hb : B ≤ blk) (hs : B ≤ w.heap.size) : Below B w0 (sortWorld enc w blk off m dk os) :=
  ⟨hB.os, hB.tape, hB.output, Nat.le_trans hB.size (by unfold sortWorld; rw [size_grow, Go.Proofs.size_putRow]; show w.heap.size ≤ w.heap.size + _; omega), fun k hk => by rw [sorted_heap enc w blk off m dk os k (by omega) (by omega)]; exact hB.block k hk⟩
def pinN (N i : Nat) : Nat := if i < N then i else 0
def encP (N : Nat) (i : Nat) : Value := .int .i64 ((pinN N i : Nat) : Int)
def keyOf (l : List Int) (i : Nat) : Int := l.getD (pinN l.length i) 0
def cfP (l : List Int) (x y : Nat) : Int := cmpI (keyOf l y) (keyOf l x)
theorem pin_lt {N : Nat} (h : 0 < N) (i : Nat) : pinN N i < N := by unfold pinN; split <;> omega
theorem pin_of {N i : Nat} (h : i < N) : pinN N i = i := by unfold pinN; rw [if_pos h]
theorem share_cmp.lays (kb rb : Nat) (A : Option Addr) (c : Nat) (l : List Int) (hl : 0 < l.length) (blk off size : Nat) (w0 w : World) (hb : w0.cell? ⟨rb, 0, none⟩ = some (.slice A l.length c)) (hr : Kd.C (Kd.int .i64) w0 A l.length l)
    (hB : Below w0.heap.size w0 w) (hblk : w0.heap.size ≤ blk) (hbw : blk ≤ w.heap.size) (hkb : kb < blk) (hk : w.cell? ⟨kb, 0, none⟩ = some (.func (.func 109) #[] #[.pointer (some ⟨rb, 0, none⟩)])) :
    CmpLays1 Try.prog 139 #[.pointer (some ⟨kb, 0, none⟩)] (encP l.length) (cfP l) blk off size w := fun m os dk hs x y => by
  have H1 := sorted_below (encP l.length) (off := off) (m := m) (dk := dk) (os := os) hB hblk hB.size
  have H2 := sorted_below (encP l.length) (off := off) (m := m) (dk := dk) (os := os) (Below.refl blk w) (Nat.le_refl _) hbw
  have := share_cmp.calls kb rb A c l (pinN l.length x) (pinN l.length y) (sortWorld (encP l.length) w blk off m dk os) (pin_lt hl x) (pin_lt hl y) ((H2.cell (p := ⟨kb, 0, none⟩) hkb).trans hk) ((H1.cell (World.block_lt_of_cell? w0 _ hb)).trans hb) (Kd.C_below hr H1)
  refine this.mono ?_
  rintro e w' ⟨he, q, hq⟩
  refine ⟨?_, q, #[], by rw [hq, grow_empty]⟩
  rw [he]
  unfold cfP keyOf
  simp [List.getD_eq_getElem?_getD, pin_lt hl x, pin_lt hl y]
theorem cfP_lt (l : List Int) : ltOf (cfP l) = Stable.ltK (keyOf l) := by
  funext x y
  unfold ltOf cfP cmpI Stable.ltK
  by_cases h1 : keyOf l y < keyOf l x
  · rw [if_pos h1]; simp [h1]
  · rw [if_neg h1]
    by_cases h2 : keyOf l y > keyOf l x
    · rw [if_pos h2]; simp; omega
    · rw [if_neg h2]; simp; omega
end Go.Proofs.Ytefhljhpcpajgaa.F
set_option linter.unusedVariables false
namespace Go.Proofs.Ytefhljhpcpajgaa.F
open Go.Sort Go.Shelf Go.Lib
open Go.RowKit Go.Proofs.YtefhljhpcpajgaaX Go.Proofs.YtefhljhpcpajgaaW.PrintWords Go.Proofs.YtefhljhpcpajgaaW.PrintLast Go.Proofs.YtefhljhpcpajgaaW.PrintMore
open Go.Proofs.Ytefhljhpcpajgaa.Stable
theorem bs_in (p : Nat → Bool) : ∀ (f i j : Nat), i ≤ j → j ≤ f + i → i ≤ bs p f i j ∧ bs p f i j ≤ j
  | 0, i, j, h, _ => by rw [bs]; omega
  | f + 1, i, j, h, h2 => by
    rw [bs]
    by_cases c : i < j
    · rw [if_pos c]
      by_cases e : p ((i + j) / 2) = true
      · rw [if_pos e]; have := bs_in p f ((i + j) / 2 + 1) j (by omega) (by omega); omega
      · rw [if_neg e]; have := bs_in p f i ((i + j) / 2) (by omega) (by omega); omega
    · rw [if_neg c]; omega
set_option maxHeartbeats 8000000 in
set_option maxRecDepth 100000 in
theorem swap_range {α : Type} [Inhabited α] (enc : α → Value) (g : Nat) (cb : Array Value) (blk off cap a b n : Nat) (d0 d : Array α) (w0 w : World) (R : Row1 enc w0 blk off d0) (hs : d0.size = d.size) (S : SW enc w0 blk off d w) (ha : a + n ≤ d.size) (hb : b + n ≤ d.size) (hsz : d.size < 4611686018427387904) :
    Calls Try.prog 167 #[.slice (some ⟨blk, off, none⟩) d.size cap, .int .i64 a, .int .i64 b, .int .i64 n, .func (.func g) #[] cb] w fun e w' => e = .returned (.tuple #[]) ∧ SW enc w0 blk off (swr a b n 0 d) w' := by
  have mixed : Try.prog.follows Departure.mixedOrders = true := by kernel_rfl
  have u22 := run_underlying Try.underlying22
  have hcl0 := R.hO.cells
  simp only [Value.cells] at hcl0
  have hst := R.hO.store Try.prog
  have S0 : Aside (SW enc w0 blk off d w) := S
  clear S
  go_enter Try.func167, Try.ntmps167
  go_wp2
  go_loopg [10] n (fun g1 vi wr => ∃ (i : Nat) (dk : Array α), vi = .int .i64 i ∧ i ≤ n ∧ n ≤ g1 + i ∧ dk.size = d.size ∧ Aside (SW enc w0 blk off dk wr) ∧ Hid (swr a b (n - i) i dk = swr a b n 0 d))
  case atStart => exact ⟨0, d, by first | rfl | go_num, by omega, by omega, rfl, S0, rfl⟩
  case round =>
    clear S0
    obtain ⟨i, dk, rfl, hib, hg1, hsk, S1, HO⟩ := hrel
    by_cases hlt : i < n
    · have hltz : (i : Int) < (n : Int) := by omega
      obtain ⟨iN, hiN⟩ : ∃ q, q = a + i := ⟨_, rfl⟩
      obtain ⟨jN, hjN⟩ : ∃ q, q = b + i := ⟨_, rfl⟩
      have ea : ((a : Int) + (i : Int)).toNat = iN := by omega
      have pa : (0 : Int) ≤ (a : Int) + (i : Int) := by omega
      have ba : (a : Int) + (i : Int) < (d.size : Int) := by omega
      have ra : IntKind.i64.wrap ((a : Int) + (i : Int)) = (a : Int) + (i : Int) := by rw [IntKind.wrap_i64]; omega
      have ec : ((b : Int) + (i : Int)).toNat = jN := by omega
      have pc : (0 : Int) ≤ (b : Int) + (i : Int) := by omega
      have bc : (b : Int) + (i : Int) < (d.size : Int) := by omega
      have rc : IntKind.i64.wrap ((b : Int) + (i : Int)) = (b : Int) + (i : Int) := by rw [IntKind.wrap_i64]; omega
      obtain ⟨x, hx⟩ : ∃ x, x = dk[iN]! := ⟨_, rfl⟩
      obtain ⟨y, hy⟩ : ∃ x, x = dk[jN]! := ⟨_, rfl⟩
      have S3 : Aside (SW enc w0 blk off (swp dk iN jN) ((wr.setCell ⟨blk, off + iN, none⟩ (enc y)).setCell ⟨blk, off + jN, none⟩ (enc x)).drew) := by rw [hx, hy]; exact S1.out.swapped R iN jN (by omega) (by omega)
      have ca := S1.out.c1 R (by omega) iN (by omega)
      have cb' := S1.out.c1 R (by omega) jN (by omega)
      have fa := S1.out.f1 R (by omega) iN (by omega)
      have fb := S1.out.f1 R (by omega) jN (by omega)
      obtain ⟨u, cc⟩ := S1.out.c2 R (by omega) iN jN (by omega) (by omega) (enc y)
      rw [← hx] at ca
      rw [← hy] at cb'
      have HX : Hid (swr a b (n - (i + 1)) (i + 1) (swp dk iN jN) = swr a b n 0 d) := by
        show _ = _
        rw [← HO.out, show n - i = n - (i + 1) + 1 by omega, swr, hiN, hjN]
      have hz : (swp dk iN jN).size = d.size := by rw [swp_size]; exact hsk
      clear S1 hx hy hiN hjN HO
      go_wp2_with fail
      go_big_region_o
      clear ca cb' cc fa fb
      generalize ((wr.setCell ⟨blk, off + iN, none⟩ (enc y)).setCell ⟨blk, off + jN, none⟩ (enc x)).drew = w3 at S3 ⊢
      clear ea ec
      go_wp2
      go_roundg (n - (i + 1))
      case measure => omega
      case rel => exact ⟨i + 1, swp dk iN jN, by first | rfl | go_num | (congr 1; omega), by omega, by omega, hz, S3, HX⟩
    · have hltz : ¬ (i : Int) < (n : Int) := by omega
      obtain rfl : i = n := by omega
      go_wp2
      go_end0
      exact ⟨rfl, by rw [← HO.out, Nat.sub_self]; exact S1.out⟩
set_option maxHeartbeats 8000000 in
set_option maxRecDepth 100000 in
theorem rotate_calls {α : Type} [Inhabited α] (enc : α → Value) (g : Nat) (cb : Array Value) (blk off cap a m b : Nat) (d0 d : Array α) (w0 w : World) (R : Row1 enc w0 blk off d0) (hs : d0.size = d.size) (S : SW enc w0 blk off d w) (ha : a < m) (hm : m < b) (hb : b ≤ d.size) (hsz : d.size < 4611686018427387904) :
    Calls Try.prog 163 #[.slice (some ⟨blk, off, none⟩) d.size cap, .int .i64 a, .int .i64 m, .int .i64 b, .func (.func g) #[] cb] w fun e w' => e = .returned (.tuple #[]) ∧ SW enc w0 blk off (rot m (m - a + (b - m)) (m - a) (b - m) d) w' := by
  have mixed : Try.prog.follows Departure.mixedOrders = true := by kernel_rfl
  have S0 : Aside (SW enc w0 blk off d w) := S
  have hw1 : IntKind.i64.wrap ((m : Int) - (a : Int)) = (m : Int) - (a : Int) := by rw [IntKind.wrap_i64]; omega
  have hw2 : IntKind.i64.wrap ((b : Int) - (m : Int)) = (b : Int) - (m : Int) := by rw [IntKind.wrap_i64]; omega
  clear S
  go_enter Try.func163, Try.ntmps163
  go_wp2
  go_loopg [10, 11] (b - a) (fun g1 vi vj wr => ∃ (i j f : Nat) (dk : Array α), vi = .int .i64 i ∧ vj = .int .i64 j ∧ 0 < i ∧ 0 < j ∧ i ≤ m ∧ m + j ≤ d.size ∧ i + j ≤ g1 ∧ i + j ≤ f ∧ dk.size = d.size ∧ Aside (SW enc w0 blk off dk wr) ∧ Hid (rot m f i j dk = rot m (m - a + (b - m)) (m - a) (b - m) d))
  case atStart => exact ⟨m - a, b - m, m - a + (b - m), d, by (congr 1; omega), by (congr 1; omega), by omega, by omega, by omega, by omega, by omega, Nat.le_refl _, rfl, S0, rfl⟩
  case round =>
    clear S0
    obtain ⟨i, j, f, dk, rfl, rfl, hi, hj, him, hmj, hg1, hf, hsk, S1, HO⟩ := hrel
    obtain ⟨f, rfl⟩ : ∃ q, f = q + 1 := ⟨f - 1, by omega⟩
    have hwi : IntKind.i64.wrap ((m : Int) - (i : Int)) = (m : Int) - (i : Int) := by rw [IntKind.wrap_i64]; omega
    by_cases hij : i = j
    · subst hij
      have hn : ((i : Int) != (i : Int)) = false := by simp
      have hc : Calls Try.prog 167 #[.slice (some ⟨blk, off, none⟩) d.size cap, .int .i64 ((m : Int) - (i : Int)), .int .i64 m, .int .i64 i, .func (.func g) #[] cb] wr fun e w' => e = .returned (.tuple #[]) ∧ SW enc w0 blk off (rot m (m - a + (b - m)) (m - a) (b - m) d) w' := by
        have := swap_range enc g cb blk off cap (m - i) m i d0 dk w0 wr R (by omega) S1.out (by omega) (by omega) (by omega)
        rw [hsk, show ((m - i : Nat) : Int) = (m : Int) - (i : Int) by omega] at this
        rw [← HO.out, rot, if_pos rfl]
        exact this
      have HC := Aside0.mk hc
      clear hc S1 HO
      go_wp2_with (first | (go_at_call 167; refine HC.out.mono ?_; rintro e w' ⟨rfl, S2⟩; have S3 := Aside0.mk S2; clear S2))
      go_end0
      exact ⟨rfl, S3.out⟩
    · have hn : ((i : Int) != (j : Int)) = true := by simp; omega
      by_cases hlt : j < i
      · have hlt' : decide ((j : Int) < (i : Int)) = true := decide_eq_true (by omega)
        have hwj : IntKind.i64.wrap ((i : Int) - (j : Int)) = (i : Int) - (j : Int) := by rw [IntKind.wrap_i64]; omega
        have hc : Calls Try.prog 167 #[.slice (some ⟨blk, off, none⟩) d.size cap, .int .i64 ((m : Int) - (i : Int)), .int .i64 m, .int .i64 j, .func (.func g) #[] cb] wr fun e w' => e = .returned (.tuple #[]) ∧ SW enc w0 blk off (swr (m - i) m j 0 dk) w' := by
          have := swap_range enc g cb blk off cap (m - i) m j d0 dk w0 wr R (by omega) S1.out (by omega) (by omega) (by omega)
          rw [hsk, show ((m - i : Nat) : Int) = (m : Int) - (i : Int) by omega] at this
          exact this
        have HX : Hid (rot m f (i - j) j (swr (m - i) m j 0 dk) = rot m (m - a + (b - m)) (m - a) (b - m) d) := by
          show _ = _
          rw [← HO.out, rot, if_neg hij, if_pos hlt]
        have hz : (swr (m - i) m j 0 dk).size = d.size := by rw [swr_size]; exact hsk
        have HC := Aside0.mk hc
        clear hc S1 HO
        go_wp2_with (first | (go_at_call 167; refine HC.out.mono ?_; rintro e w' ⟨rfl, S2⟩; have S3 := Aside0.mk S2; clear S2))
        go_roundg (i - j + j)
        case measure => omega
        case rel => exact ⟨i - j, j, f, _, by (congr 1; omega), rfl, by omega, hj, by omega, hmj, by omega, by omega, hz, S3.out, HX⟩
      · have hlt' : decide ((j : Int) < (i : Int)) = false := decide_eq_false (by omega)
        have hwj : IntKind.i64.wrap ((j : Int) - (i : Int)) = (j : Int) - (i : Int) := by rw [IntKind.wrap_i64]; omega
        have hw3 : IntKind.i64.wrap ((m : Int) + (j : Int)) = (m : Int) + (j : Int) := by rw [IntKind.wrap_i64]; omega
        have hw4 : IntKind.i64.wrap ((m : Int) + (j : Int) - (i : Int)) = (m : Int) + (j : Int) - (i : Int) := by rw [IntKind.wrap_i64]; omega
        have hc : Calls Try.prog 167 #[.slice (some ⟨blk, off, none⟩) d.size cap, .int .i64 ((m : Int) - (i : Int)), .int .i64 ((m : Int) + (j : Int) - (i : Int)), .int .i64 i, .func (.func g) #[] cb] wr fun e w' => e = .returned (.tuple #[]) ∧ SW enc w0 blk off (swr (m - i) (m + j - i) i 0 dk) w' := by
          have := swap_range enc g cb blk off cap (m - i) (m + j - i) i d0 dk w0 wr R (by omega) S1.out (by omega) (by omega) (by omega)
          rw [hsk, show ((m - i : Nat) : Int) = (m : Int) - (i : Int) by omega, show ((m + j - i : Nat) : Int) = (m : Int) + (j : Int) - (i : Int) by omega] at this
          exact this
        have HX : Hid (rot m f i (j - i) (swr (m - i) (m + j - i) i 0 dk) = rot m (m - a + (b - m)) (m - a) (b - m) d) := by
          show _ = _
          rw [← HO.out, rot, if_neg hij, if_neg hlt]
        have hz : (swr (m - i) (m + j - i) i 0 dk).size = d.size := by rw [swr_size]; exact hsk
        have HC := Aside0.mk hc
        clear hc S1 HO
        go_wp2_with (first | (go_at_call 167; refine HC.out.mono ?_; rintro e w' ⟨rfl, S2⟩; have S3 := Aside0.mk S2; clear S2))
        go_roundg (i + (j - i))
        case measure => omega
        case rel => exact ⟨i, j - i, f, _, rfl, by (congr 1; omega), hi, by omega, him, by omega, by omega, by omega, hz, S3.out, HX⟩
end Go.Proofs.Ytefhljhpcpajgaa.F
set_option linter.unusedVariables false
namespace Go.Proofs.Ytefhljhpcpajgaa.F
open Go.Sort Go.Shelf Go.Lib
open Go.RowKit Go.Proofs.YtefhljhpcpajgaaX Go.Proofs.YtefhljhpcpajgaaW.PrintWords Go.Proofs.YtefhljhpcpajgaaW.PrintLast Go.Proofs.YtefhljhpcpajgaaW.PrintMore
open Go.Proofs.Ytefhljhpcpajgaa.Stable
set_option maxHeartbeats 8000000 in
set_option maxRecDepth 100000 in
theorem sym_up {α : Type} [Inhabited α] (enc : α → Value) (cf : α → α → Int) (g : Nat) (cb : Array Value) (blk off cap a M b : Nat) (d0 d : Array α) (w0 w : World) (eg : ∀ args w, (callFunc g args).run Try.prog w = .ok (.enter g args) w) (hcmp : CmpLays1 Try.prog g cb enc cf blk off d0.size w0) (R : Row1 enc w0 blk off d0) (hs : d0.size = d.size) (S : SW enc w0 blk off d w) (ha1 : a < M) (ha2 : M ≤ a + 1) (hm : M < b) (hb : b ≤ d.size) (hsz : d.size < 4611686018427387904) :
    Calls Try.prog 156 #[.slice (some ⟨blk, off, none⟩) d.size cap, .int .i64 a, .int .i64 M, .int .i64 b, .func (.func g) #[] cb] w fun e w' => e = .returned (.tuple #[]) ∧ SW enc w0 blk off (shU (bs (fun h => ltOf cf d[h]! d[a]!) (b - M) M b - 1 - a) a d) w' := by
  have mixed : Try.prog.follows Departure.mixedOrders = true := by kernel_rfl
  have u22 := run_underlying Try.underlying22
  have hcl0 := R.hO.cells
  simp only [Value.cells] at hcl0
  have hst := R.hO.store Try.prog
  have HC : Aside _ := hcmp
  have S0 : Aside (SW enc w0 blk off d w) := S
  have hma : IntKind.i64.wrap ((M : Int) - (a : Int)) = 1 := by rw [IntKind.wrap_i64]; omega
  have hma' : (((1 : Int) == 1) = true) := rfl
  have hspec : M ≤ bs (fun h => ltOf cf d[h]! d[a]!) (b - M) M b ∧ bs (fun h => ltOf cf d[h]! d[a]!) (b - M) M b ≤ b := bs_in _ _ _ _ (by omega) (by omega)
  have HS := Aside0.mk hspec
  clear S hcmp hspec
  go_enter Try.func156, Try.ntmps156
  go_wp2
  go_loopg [10, 11] (b - M) (fun g1 vi vj wr => ∃ (i j f : Nat), vi = .int .i64 i ∧ vj = .int .i64 j ∧ M ≤ i ∧ i ≤ j ∧ j ≤ b ∧ j ≤ g1 + i ∧ j ≤ f + i ∧ Aside (SW enc w0 blk off d wr) ∧ Hid (bs (fun h => ltOf cf d[h]! d[a]!) f i j = bs (fun h => ltOf cf d[h]! d[a]!) (b - M) M b))
  case atStart => exact ⟨M, b, b - M, rfl, rfl, Nat.le_refl _, by omega, Nat.le_refl _, by omega, by omega, S0, rfl⟩
  case round =>
    clear S0
    obtain ⟨i, j, f, rfl, rfl, him, hij, hjb, hg1, hf, S1, HO⟩ := hrel
    by_cases hlt : i < j
    · have hltz : (i : Int) < (j : Int) := by omega
      obtain ⟨f, rfl⟩ : ∃ q, f = q + 1 := ⟨f - 1, by omega⟩
      obtain ⟨h, hh⟩ : ∃ q, q = (i + j) / 2 := ⟨_, rfl⟩
      have ea : (((i : Int) + (j : Int)) / 2).toNat = h := by omega
      have pa : (0 : Int) ≤ ((i : Int) + (j : Int)) / 2 := by omega
      have ba : ((i : Int) + (j : Int)) / 2 < (d.size : Int) := by omega
      have ra : IntKind.i64.wrap (((i : Int) + (j : Int)) / 2 + 1) = ((i : Int) + (j : Int)) / 2 + 1 := by rw [IntKind.wrap_i64]; omega
      have bc : (a : Int) < (d.size : Int) := by omega
      obtain ⟨x, hx⟩ : ∃ x, x = d[h]! := ⟨_, rfl⟩
      obtain ⟨y, hy⟩ : ∃ x, x = d[a]! := ⟨_, rfl⟩
      have la := S1.out.cl R (by omega) h (by omega)
      have lb := S1.out.cl R (by omega) a (by omega)
      rw [← hx, hh] at la
      rw [← hy] at lb
      have hc := S1.out.cmp HC.out (by omega) x y
      cases hlv : ltOf cf d[h]! d[a]! with
      | true =>
        have hd : decide (cf x y < 0) = true := by rw [hx, hy]; exact hlv
        have HX : Hid (bs (fun h => ltOf cf d[h]! d[a]!) f (h + 1) j = bs (fun h => ltOf cf d[h]! d[a]!) (b - M) M b) := by
          show _ = _
          rw [← HO.out, bs, if_pos hlt, if_pos (by rw [← hh]; exact hlv), hh]
        clear hx hy hlv
        go_wp2_with fail
        go_quiet_grown (first | (go_at_fn g; refine Calls.grown_of (hc _ _)))
        have S2 : Aside (SW enc w0 blk off d (grow (wr.drewN nq) osq)) := S1.out.grown nq osq
        clear la lb hc S1
        generalize grow (wr.drewN nq) osq = w2 at S2 ⊢
        clear nq osq
        go_wp2
        go_roundg (j - (h + 1))
        case measure => omega
        case rel => exact ⟨h + 1, j, f, by (congr 1; omega), rfl, by omega, by omega, hjb, by omega, by omega, S2, HX⟩
      | false =>
        have hd : decide (cf x y < 0) = false := by rw [hx, hy]; exact hlv
        have HX : Hid (bs (fun h => ltOf cf d[h]! d[a]!) f i h = bs (fun h => ltOf cf d[h]! d[a]!) (b - M) M b) := by
          show _ = _
          rw [← HO.out, bs, if_pos hlt, if_neg (by rw [← hh]; simp [hlv]), hh]
        clear hx hy hlv
        go_wp2_with fail
        go_quiet_grown (first | (go_at_fn g; refine Calls.grown_of (hc _ _)))
        have S2 : Aside (SW enc w0 blk off d (grow (wr.drewN nq) osq)) := S1.out.grown nq osq
        clear la lb hc S1
        generalize grow (wr.drewN nq) osq = w2 at S2 ⊢
        clear nq osq
        go_wp2
        go_roundg (h - i)
        case measure => omega
        case rel => exact ⟨i, h, f, rfl, by (congr 1; omega), him, by omega, by omega, by omega, by omega, S2, HX⟩
    · obtain rfl : i = j := by omega
      obtain ⟨s, hs'⟩ : ∃ q, q = bs (fun h => ltOf cf d[h]! d[a]!) (b - M) M b := ⟨_, rfl⟩
      have hsi : i = s := by
        rw [hs', ← HO.out]
        cases f with
        | zero => rw [bs]
        | succ f => rw [bs, if_neg hlt]
      have HS2 := HS.out
      rw [← hs', ← hsi] at HS2
      rw [← hsi] at hs'
      have HE := Aside0.mk hs'
      clear HS HO hs' hsi
      have rs : IntKind.i64.wrap ((i : Int) - 1) = (i : Int) - 1 := by rw [IntKind.wrap_i64]; omega
      go_wp2
      go_loopg [13] (i - 1 - a) (fun g1 vk wr => ∃ (k : Nat) (dk : Array α), vk = .int .i64 k ∧ a ≤ k ∧ k ≤ i - 1 ∧ i - 1 ≤ g1 + k ∧ dk.size = d.size ∧ Aside (SW enc w0 blk off dk wr) ∧ Hid (shU (i - 1 - k) k dk = shU (i - 1 - a) a d))
      case atStart => exact ⟨a, d, rfl, Nat.le_refl _, by omega, by omega, rfl, S1, rfl⟩
      case round =>
        clear S1
        obtain ⟨k, dk, rfl, hak, hki, hg2, hsk, S1, HO⟩ := hrel
        by_cases hlt : k < i - 1
        · have hltz : (k : Int) < (i : Int) - 1 := by omega
          obtain ⟨jN, hjN⟩ : ∃ q, q = k + 1 := ⟨_, rfl⟩
          have ec : ((k : Int) + 1).toNat = jN := by omega
          have pc : (0 : Int) ≤ (k : Int) + 1 := by omega
          have bc : (k : Int) + 1 < (d.size : Int) := by omega
          have rc : IntKind.i64.wrap ((k : Int) + 1) = (k : Int) + 1 := by rw [IntKind.wrap_i64]; omega
          have ba : (k : Int) < (d.size : Int) := by omega
          obtain ⟨x, hx⟩ : ∃ x, x = dk[k]! := ⟨_, rfl⟩
          obtain ⟨y, hy⟩ : ∃ x, x = dk[jN]! := ⟨_, rfl⟩
          have S3 : Aside (SW enc w0 blk off (swp dk k jN) ((wr.setCell ⟨blk, off + k, none⟩ (enc y)).setCell ⟨blk, off + jN, none⟩ (enc x)).drew) := by rw [hx, hy]; exact S1.out.swapped R k jN (by omega) (by omega)
          have ca := S1.out.c1 R (by omega) k (by omega)
          have cb' := S1.out.c1 R (by omega) jN (by omega)
          have fa := S1.out.f1 R (by omega) k (by omega)
          have fb := S1.out.f1 R (by omega) jN (by omega)
          obtain ⟨u, cc⟩ := S1.out.c2 R (by omega) k jN (by omega) (by omega) (enc y)
          rw [← hx] at ca
          rw [← hy] at cb'
          have HX : Hid (shU (i - 1 - (k + 1)) (k + 1) (swp dk k jN) = shU (i - 1 - a) a d) := by
            show _ = _
            rw [← HO.out, show i - 1 - k = i - 1 - (k + 1) + 1 by omega, shU, hjN]
          have hz : (swp dk k jN).size = d.size := by rw [swp_size]; exact hsk
          clear S1 hx hy hjN HO
          go_wp2_with fail
          go_big_region_o
          clear ca cb' cc fa fb
          generalize ((wr.setCell ⟨blk, off + k, none⟩ (enc y)).setCell ⟨blk, off + jN, none⟩ (enc x)).drew = w3 at S3 ⊢
          clear ec
          go_wp2
          go_roundg (i - 1 - (k + 1))
          case measure => omega
          case rel => exact ⟨k + 1, swp dk k jN, by first | rfl | go_num | (congr 1; omega), by omega, by omega, by omega, hz, S3, HX⟩
        · have hltz : ¬ (k : Int) < (i : Int) - 1 := by omega
          obtain rfl : k = i - 1 := by omega
          go_wp2
          (try simp only [Exit.inBlock, Exit.then]); refine bodyPost_ret (results_none rfl _ _ _) rfl ?_
          exact ⟨rfl, by rw [← HE.out, ← HO.out, Nat.sub_self]; exact S1.out⟩
set_option maxHeartbeats 8000000 in
set_option maxRecDepth 100000 in
theorem sym_down {α : Type} [Inhabited α] (enc : α → Value) (cf : α → α → Int) (g : Nat) (cb : Array Value) (blk off cap a M b : Nat) (d0 d : Array α) (w0 w : World) (eg : ∀ args w, (callFunc g args).run Try.prog w = .ok (.enter g args) w) (hcmp : CmpLays1 Try.prog g cb enc cf blk off d0.size w0) (R : Row1 enc w0 blk off d0) (hs : d0.size = d.size) (S : SW enc w0 blk off d w) (ha1 : a < M) (ha2 : a + 1 < M) (hm : M < b) (hm2 : b ≤ M + 1) (hb : b ≤ d.size) (hsz : d.size < 4611686018427387904) :
    Calls Try.prog 156 #[.slice (some ⟨blk, off, none⟩) d.size cap, .int .i64 a, .int .i64 M, .int .i64 b, .func (.func g) #[] cb] w fun e w' => e = .returned (.tuple #[]) ∧ SW enc w0 blk off (shD (M - bs (fun h => !ltOf cf d[M]! d[h]!) (M - a) a M) M d) w' := by
  have mixed : Try.prog.follows Departure.mixedOrders = true := by kernel_rfl
  have u22 := run_underlying Try.underlying22
  have hcl0 := R.hO.cells
  simp only [Value.cells] at hcl0
  have hst := R.hO.store Try.prog
  have HC : Aside _ := hcmp
  have S0 : Aside (SW enc w0 blk off d w) := S
  have hma : IntKind.i64.wrap ((M : Int) - (a : Int)) = (M : Int) - (a : Int) := by rw [IntKind.wrap_i64]; omega
  have hma' : (((M : Int) - (a : Int) == 1) = false) := by simp; omega
  have hmb : IntKind.i64.wrap ((b : Int) - (M : Int)) = 1 := by rw [IntKind.wrap_i64]; omega
  have hspec : a ≤ bs (fun h => !ltOf cf d[M]! d[h]!) (M - a) a M ∧ bs (fun h => !ltOf cf d[M]! d[h]!) (M - a) a M ≤ M := bs_in _ _ _ _ (by omega) (by omega)
  have HS := Aside0.mk hspec
  clear S hcmp hspec
  go_enter Try.func156, Try.ntmps156
  go_wp2
  go_loopg [14, 15] (M - a) (fun g1 vi vj wr => ∃ (i j f : Nat), vi = .int .i64 i ∧ vj = .int .i64 j ∧ a ≤ i ∧ i ≤ j ∧ j ≤ M ∧ j ≤ g1 + i ∧ j ≤ f + i ∧ Aside (SW enc w0 blk off d wr) ∧ Hid (bs (fun h => !ltOf cf d[M]! d[h]!) f i j = bs (fun h => !ltOf cf d[M]! d[h]!) (M - a) a M))
  case atStart => exact ⟨a, M, M - a, rfl, rfl, Nat.le_refl _, by omega, Nat.le_refl _, by omega, by omega, S0, rfl⟩
  case round =>
    clear S0
    obtain ⟨i, j, f, rfl, rfl, him, hij, hjb, hg1, hf, S1, HO⟩ := hrel
    by_cases hlt : i < j
    · have hltz : (i : Int) < (j : Int) := by omega
      obtain ⟨f, rfl⟩ : ∃ q, f = q + 1 := ⟨f - 1, by omega⟩
      obtain ⟨h, hh⟩ : ∃ q, q = (i + j) / 2 := ⟨_, rfl⟩
      have ea : (((i : Int) + (j : Int)) / 2).toNat = h := by omega
      have pa : (0 : Int) ≤ ((i : Int) + (j : Int)) / 2 := by omega
      have ba : ((i : Int) + (j : Int)) / 2 < (d.size : Int) := by omega
      have ra : IntKind.i64.wrap (((i : Int) + (j : Int)) / 2 + 1) = ((i : Int) + (j : Int)) / 2 + 1 := by rw [IntKind.wrap_i64]; omega
      have bc : (M : Int) < (d.size : Int) := by omega
      obtain ⟨x, hx⟩ : ∃ x, x = d[M]! := ⟨_, rfl⟩
      obtain ⟨y, hy⟩ : ∃ x, x = d[h]! := ⟨_, rfl⟩
      have la := S1.out.cl R (by omega) M (by omega)
      have lb := S1.out.cl R (by omega) h (by omega)
      rw [← hx] at la
      rw [← hy, hh] at lb
      have hc := S1.out.cmp HC.out (by omega) x y
      cases hlv : ltOf cf d[M]! d[h]! with
      | false =>
        have hd : decide (cf x y < 0) = false := by rw [hx, hy]; exact hlv
        have HX : Hid (bs (fun h => !ltOf cf d[M]! d[h]!) f (h + 1) j = bs (fun h => !ltOf cf d[M]! d[h]!) (M - a) a M) := by
          show _ = _
          rw [← HO.out, bs, if_pos hlt, if_pos (by rw [← hh]; simp [hlv]), hh]
        clear hx hy hlv
        go_wp2_with fail
        go_quiet_grown (first | (go_at_fn g; refine Calls.grown_of (hc _ _)))
        have S2 : Aside (SW enc w0 blk off d (grow (wr.drewN nq) osq)) := S1.out.grown nq osq
        clear la lb hc S1
        generalize grow (wr.drewN nq) osq = w2 at S2 ⊢
        clear nq osq
        go_wp2
        go_roundg (j - (h + 1))
        case measure => omega
        case rel => exact ⟨h + 1, j, f, by (congr 1; omega), rfl, by omega, by omega, hjb, by omega, by omega, S2, HX⟩
      | true =>
        have hd : decide (cf x y < 0) = true := by rw [hx, hy]; exact hlv
        have HX : Hid (bs (fun h => !ltOf cf d[M]! d[h]!) f i h = bs (fun h => !ltOf cf d[M]! d[h]!) (M - a) a M) := by
          show _ = _
          rw [← HO.out, bs, if_pos hlt, if_neg (by rw [← hh]; simp [hlv]), hh]
        clear hx hy hlv
        go_wp2_with fail
        go_quiet_grown (first | (go_at_fn g; refine Calls.grown_of (hc _ _)))
        have S2 : Aside (SW enc w0 blk off d (grow (wr.drewN nq) osq)) := S1.out.grown nq osq
        clear la lb hc S1
        generalize grow (wr.drewN nq) osq = w2 at S2 ⊢
        clear nq osq
        go_wp2
        go_roundg (h - i)
        case measure => omega
        case rel => exact ⟨i, h, f, rfl, by (congr 1; omega), him, by omega, by omega, by omega, by omega, S2, HX⟩
    · obtain rfl : i = j := by omega
      obtain ⟨s, hs'⟩ : ∃ q, q = bs (fun h => !ltOf cf d[M]! d[h]!) (M - a) a M := ⟨_, rfl⟩
      have hsi : i = s := by
        rw [hs', ← HO.out]
        cases f with
        | zero => rw [bs]
        | succ f => rw [bs, if_neg hlt]
      have HS2 := HS.out
      rw [← hs', ← hsi] at HS2
      rw [← hsi] at hs'
      have HE := Aside0.mk hs'
      clear HS HO hs' hsi
      go_wp2
      go_loopg [17] (M - i) (fun g1 vk wr => ∃ (k : Nat) (dk : Array α), vk = .int .i64 k ∧ i ≤ k ∧ k ≤ M ∧ k ≤ g1 + i ∧ dk.size = d.size ∧ Aside (SW enc w0 blk off dk wr) ∧ Hid (shD (k - i) k dk = shD (M - i) M d))
      case atStart => exact ⟨M, d, rfl, by omega, Nat.le_refl _, by omega, rfl, S1, rfl⟩
      case round =>
        clear S1
        obtain ⟨k, dk, rfl, hak, hki, hg2, hsk, S1, HO⟩ := hrel
        by_cases hlt : i < k
        · have hltz : (i : Int) < (k : Int) := by omega
          obtain ⟨kp, rfl⟩ : ∃ q, k = q + 1 := ⟨k - 1, by omega⟩
          obtain ⟨kN, hkN⟩ : ∃ q, q = kp + 1 := ⟨_, rfl⟩
          have ez : ((kp + 1 : Nat) : Int) = (kN : Int) := by omega
          have ec : ((kN : Int) - 1).toNat = kp := by omega
          have pc : (0 : Int) ≤ (kN : Int) - 1 := by omega
          have bc : (kN : Int) - 1 < (d.size : Int) := by omega
          have rc : IntKind.i64.wrap ((kN : Int) - 1) = (kN : Int) - 1 := by rw [IntKind.wrap_i64]; omega
          have ba : (kN : Int) < (d.size : Int) := by omega
          have hltz' : (i : Int) < (kN : Int) := by omega
          have q1 : kN ≤ dk.size := by omega
          have q2 : i < kN := by omega
          obtain ⟨x, hx⟩ : ∃ x, x = dk[kN]! := ⟨_, rfl⟩
          obtain ⟨y, hy⟩ : ∃ x, x = dk[kp]! := ⟨_, rfl⟩
          have S3 : Aside (SW enc w0 blk off (swp dk kN kp) ((wr.setCell ⟨blk, off + kN, none⟩ (enc y)).setCell ⟨blk, off + kp, none⟩ (enc x)).drew) := by rw [hx, hy]; exact S1.out.swapped R kN kp (by omega) (by omega)
          have ca := S1.out.c1 R (by omega) kN (by omega)
          have cb' := S1.out.c1 R (by omega) kp (by omega)
          have fa := S1.out.f1 R (by omega) kN (by omega)
          have fb := S1.out.f1 R (by omega) kp (by omega)
          obtain ⟨u, cc⟩ := S1.out.c2 R (by omega) kN kp (by omega) (by omega) (enc y)
          rw [← hx] at ca
          rw [← hy] at cb'
          have HX : Hid (shD (kp - i) kp (swp dk kN kp) = shD (M - i) M d) := by
            show _ = _
            rw [← HO.out, show kp + 1 - i = kp - i + 1 by omega, shD, hkN, Nat.add_sub_cancel]
          have hz : (swp dk kN kp).size = d.size := by rw [swp_size]; exact hsk
          have q3 := Aside0.mk (And.intro hkN (And.intro hki (And.intro hg2 hak)))
          rw [ez]
          clear S1 hx hy HO hltz hlt hak hki hg2 ez
          clear hkN
          go_wp2_with fail
          go_big_region_o
          clear ca cb' cc fa fb
          generalize ((wr.setCell ⟨blk, off + kN, none⟩ (enc y)).setCell ⟨blk, off + kp, none⟩ (enc x)).drew = w3 at S3 ⊢
          clear ec
          go_wp2
          go_roundg (kp - i)
          case measure => have := q3.out; omega
          case rel => have := q3.out; exact ⟨kp, swp dk kN kp, by first | rfl | go_num | (congr 1; omega), by omega, by omega, by omega, hz, S3, HX⟩
        · have hltz : ¬ (i : Int) < (k : Int) := by omega
          obtain rfl : k = i := by omega
          go_wp2
          (try simp only [Exit.inBlock, Exit.then]); refine bodyPost_ret (results_none rfl _ _ _) rfl ?_
          exact ⟨rfl, by rw [← HE.out, ← HO.out, Nat.sub_self]; exact S1.out⟩
end Go.Proofs.Ytefhljhpcpajgaa.F
set_option linter.unusedVariables false
namespace Go.Proofs.Ytefhljhpcpajgaa.F
open Go.Sort Go.Shelf Go.Lib
open Go.RowKit Go.Proofs.YtefhljhpcpajgaaX Go.Proofs.YtefhljhpcpajgaaW.PrintWords Go.Proofs.YtefhljhpcpajgaaW.PrintLast Go.Proofs.YtefhljhpcpajgaaW.PrintMore
open Go.Proofs.Ytefhljhpcpajgaa.Stable
set_option maxHeartbeats 16000000 in
set_option maxRecDepth 100000 in
theorem sym_midA {α : Type} [Inhabited α] (enc : α → Value) (cf : α → α → Int) (g : Nat) (cb : Array Value) (blk off cap a m b mid f0 : Nat) (d0 d : Array α) (w0 w : World) (eg : ∀ args w, (callFunc g args).run Try.prog w = .ok (.enter g args) w) (hcmp : CmpLays1 Try.prog g cb enc cf blk off d0.size w0) (R : Row1 enc w0 blk off d0) (hs : d0.size = d.size) (S : SW enc w0 blk off d w)
    (ha1 : a + 1 < m) (hm : m + 1 < b) (hmid : mid = (a + b) / 2) (hA : mid < m) (hb : b ≤ d.size) (hsz : d.size < 4611686018427387904)
    (rec : ∀ (a m b : Nat) (d : Array α) (w : World), a < m → m < b → b - a ≤ f0 → b ≤ d.size → d0.size = d.size → SW enc w0 blk off d w → Calls Try.prog 156 #[.slice (some ⟨blk, off, none⟩) d.size cap, .int .i64 a, .int .i64 m, .int .i64 b, .func (.func g) #[] cb] w fun e w' => e = .returned (.tuple #[]) ∧ SW enc w0 blk off (sym (ltOf cf) f0 a m b d) w') (hf0 : b - a ≤ f0 + 1) :
    Calls Try.prog 156 #[.slice (some ⟨blk, off, none⟩) d.size cap, .int .i64 a, .int .i64 m, .int .i64 b, .func (.func g) #[] cb] w fun e w' => e = .returned (.tuple #[]) ∧ SW enc w0 blk off (sym (ltOf cf) (f0 + 1) a m b d) w' := by
  have mixed : Try.prog.follows Departure.mixedOrders = true := by kernel_rfl
  have u22 := run_underlying Try.underlying22
  have hcl0 := R.hO.cells
  simp only [Value.cells] at hcl0
  have hst := R.hO.store Try.prog
  have HC : Aside _ := hcmp
  have HR : Aside _ := rec
  have S0 : Aside (SW enc w0 blk off d w) := S
  have hma : IntKind.i64.wrap ((m : Int) - (a : Int)) = (m : Int) - (a : Int) := by rw [IntKind.wrap_i64]; omega
  have hma' : (((m : Int) - (a : Int) == 1) = false) := by simp; omega
  have hmb : IntKind.i64.wrap ((b : Int) - (m : Int)) = (b : Int) - (m : Int) := by rw [IntKind.wrap_i64]; omega
  have hmb' : (((b : Int) - (m : Int) == 1) = false) := by simp; omega
  have emid : ((a : Int) + (b : Int)) / 2 = (mid : Int) := by omega
  have hA' : decide ((mid : Int) < (m : Int)) = true := decide_eq_true (by omega)
  have hA2 : ((mid : Int) < (m : Int)) = True := eq_true (by omega)
  have hwn : IntKind.i64.wrap ((mid : Int) + (m : Int)) = (mid : Int) + (m : Int) := by rw [IntKind.wrap_i64]; omega
  have hwb : IntKind.i64.wrap ((mid : Int) + (m : Int) - (b : Int)) = (mid : Int) + (m : Int) - (b : Int) := by rw [IntKind.wrap_i64]; omega
  have hwp : IntKind.i64.wrap ((mid : Int) + (m : Int) - 1) = (mid : Int) + (m : Int) - 1 := by rw [IntKind.wrap_i64]; omega
  have HE : Aside0 (sym (ltOf cf) (f0 + 1) a m b d = (if mid < mid + m - (bs (fun c => !ltOf cf d[mid + m - 1 - c]! d[c]!) (mid - (mid + m - b)) (mid + m - b) mid) ∧ mid + m - (bs (fun c => !ltOf cf d[mid + m - 1 - c]! d[c]!) (mid - (mid + m - b)) (mid + m - b) mid) < b then sym (ltOf cf) f0 mid (mid + m - (bs (fun c => !ltOf cf d[mid + m - 1 - c]! d[c]!) (mid - (mid + m - b)) (mid + m - b) mid)) b (if a < (bs (fun c => !ltOf cf d[mid + m - 1 - c]! d[c]!) (mid - (mid + m - b)) (mid + m - b) mid) ∧ (bs (fun c => !ltOf cf d[mid + m - 1 - c]! d[c]!) (mid - (mid + m - b)) (mid + m - b) mid) < mid then sym (ltOf cf) f0 a (bs (fun c => !ltOf cf d[mid + m - 1 - c]! d[c]!) (mid - (mid + m - b)) (mid + m - b) mid) mid (if (bs (fun c => !ltOf cf d[mid + m - 1 - c]! d[c]!) (mid - (mid + m - b)) (mid + m - b) mid) < m ∧ m < mid + m - (bs (fun c => !ltOf cf d[mid + m - 1 - c]! d[c]!) (mid - (mid + m - b)) (mid + m - b) mid) then rot m (m - (bs (fun c => !ltOf cf d[mid + m - 1 - c]! d[c]!) (mid - (mid + m - b)) (mid + m - b) mid) + (mid + m - (bs (fun c => !ltOf cf d[mid + m - 1 - c]! d[c]!) (mid - (mid + m - b)) (mid + m - b) mid) - m)) (m - (bs (fun c => !ltOf cf d[mid + m - 1 - c]! d[c]!) (mid - (mid + m - b)) (mid + m - b) mid)) (mid + m - (bs (fun c => !ltOf cf d[mid + m - 1 - c]! d[c]!) (mid - (mid + m - b)) (mid + m - b) mid) - m) d else d) else (if (bs (fun c => !ltOf cf d[mid + m - 1 - c]! d[c]!) (mid - (mid + m - b)) (mid + m - b) mid) < m ∧ m < mid + m - (bs (fun c => !ltOf cf d[mid + m - 1 - c]! d[c]!) (mid - (mid + m - b)) (mid + m - b) mid) then rot m (m - (bs (fun c => !ltOf cf d[mid + m - 1 - c]! d[c]!) (mid - (mid + m - b)) (mid + m - b) mid) + (mid + m - (bs (fun c => !ltOf cf d[mid + m - 1 - c]! d[c]!) (mid - (mid + m - b)) (mid + m - b) mid) - m)) (m - (bs (fun c => !ltOf cf d[mid + m - 1 - c]! d[c]!) (mid - (mid + m - b)) (mid + m - b) mid)) (mid + m - (bs (fun c => !ltOf cf d[mid + m - 1 - c]! d[c]!) (mid - (mid + m - b)) (mid + m - b) mid) - m) d else d)) else (if a < (bs (fun c => !ltOf cf d[mid + m - 1 - c]! d[c]!) (mid - (mid + m - b)) (mid + m - b) mid) ∧ (bs (fun c => !ltOf cf d[mid + m - 1 - c]! d[c]!) (mid - (mid + m - b)) (mid + m - b) mid) < mid then sym (ltOf cf) f0 a (bs (fun c => !ltOf cf d[mid + m - 1 - c]! d[c]!) (mid - (mid + m - b)) (mid + m - b) mid) mid (if (bs (fun c => !ltOf cf d[mid + m - 1 - c]! d[c]!) (mid - (mid + m - b)) (mid + m - b) mid) < m ∧ m < mid + m - (bs (fun c => !ltOf cf d[mid + m - 1 - c]! d[c]!) (mid - (mid + m - b)) (mid + m - b) mid) then rot m (m - (bs (fun c => !ltOf cf d[mid + m - 1 - c]! d[c]!) (mid - (mid + m - b)) (mid + m - b) mid) + (mid + m - (bs (fun c => !ltOf cf d[mid + m - 1 - c]! d[c]!) (mid - (mid + m - b)) (mid + m - b) mid) - m)) (m - (bs (fun c => !ltOf cf d[mid + m - 1 - c]! d[c]!) (mid - (mid + m - b)) (mid + m - b) mid)) (mid + m - (bs (fun c => !ltOf cf d[mid + m - 1 - c]! d[c]!) (mid - (mid + m - b)) (mid + m - b) mid) - m) d else d) else (if (bs (fun c => !ltOf cf d[mid + m - 1 - c]! d[c]!) (mid - (mid + m - b)) (mid + m - b) mid) < m ∧ m < mid + m - (bs (fun c => !ltOf cf d[mid + m - 1 - c]! d[c]!) (mid - (mid + m - b)) (mid + m - b) mid) then rot m (m - (bs (fun c => !ltOf cf d[mid + m - 1 - c]! d[c]!) (mid - (mid + m - b)) (mid + m - b) mid) + (mid + m - (bs (fun c => !ltOf cf d[mid + m - 1 - c]! d[c]!) (mid - (mid + m - b)) (mid + m - b) mid) - m)) (m - (bs (fun c => !ltOf cf d[mid + m - 1 - c]! d[c]!) (mid - (mid + m - b)) (mid + m - b) mid)) (mid + m - (bs (fun c => !ltOf cf d[mid + m - 1 - c]! d[c]!) (mid - (mid + m - b)) (mid + m - b) mid) - m) d else d)))) := ⟨by
    rw [sym, if_neg (by omega), if_neg (by omega), ← hmid]
    dsimp only
    rw [if_pos hA, if_pos hA]⟩
  have HS : Aside0 ((mid + m - b) ≤ bs (fun c => !ltOf cf d[mid + m - 1 - c]! d[c]!) (mid - (mid + m - b)) (mid + m - b) mid ∧ bs (fun c => !ltOf cf d[mid + m - 1 - c]! d[c]!) (mid - (mid + m - b)) (mid + m - b) mid ≤ mid) := ⟨bs_in _ _ _ _ (by omega) (by omega)⟩
  have HM := Aside0.mk hmid
  clear S hcmp rec hmid
  go_enter Try.func156, Try.ntmps156
  go_wp2
  go_loopg [20, 21] (mid - (mid + m - b)) (fun g1 vi vj wr => ∃ (i j f : Nat), vi = .int .i64 i ∧ vj = .int .i64 j ∧ (mid + m - b) ≤ i ∧ i ≤ j ∧ j ≤ mid ∧ j ≤ g1 + i ∧ j ≤ f + i ∧ Aside (SW enc w0 blk off d wr) ∧ Hid (bs (fun c => !ltOf cf d[mid + m - 1 - c]! d[c]!) f i j = bs (fun c => !ltOf cf d[mid + m - 1 - c]! d[c]!) (mid - (mid + m - b)) (mid + m - b) mid))
  case atStart => have := HM.out; exact ⟨(mid + m - b), mid, mid - (mid + m - b), by first | rfl | (congr 1; omega), by first | rfl | (congr 1; omega), Nat.le_refl _, by omega, Nat.le_refl _, by omega, by omega, S0, rfl⟩
  case round =>
    clear S0
    obtain ⟨i, j, f, rfl, rfl, him, hij, hjb, hg1, hf, S1, HO⟩ := hrel
    by_cases hlt : i < j
    · have hltz : (i : Int) < (j : Int) := by omega
      obtain ⟨f, rfl⟩ : ∃ q, f = q + 1 := ⟨f - 1, by omega⟩
      have hM := HM.out
      obtain ⟨h, hh⟩ : ∃ q, q = (i + j) / 2 := ⟨_, rfl⟩
      obtain ⟨pN, hpN⟩ : ∃ q, q = mid + m - 1 - h := ⟨_, rfl⟩
      have eh : ((i : Int) + (j : Int)) / 2 = (h : Int) := by omega
      have ba : (h : Int) < (d.size : Int) := by omega
      have rh : IntKind.i64.wrap ((h : Int) + 1) = (h : Int) + 1 := by rw [IntKind.wrap_i64]; omega
      have esub : (mid : Int) + (m : Int) - 1 - (h : Int) = (pN : Int) := by omega
      have bc : (pN : Int) < (d.size : Int) := by omega
      have rc : IntKind.i64.wrap ((pN : Int)) = (pN : Int) := by rw [IntKind.wrap_i64]; omega
      obtain ⟨x, hx⟩ : ∃ x, x = d[pN]! := ⟨_, rfl⟩
      obtain ⟨y, hy⟩ : ∃ x, x = d[h]! := ⟨_, rfl⟩
      have la := S1.out.cl R (by omega) pN (by omega)
      have lb := S1.out.cl R (by omega) h (by omega)
      rw [← hx] at la
      rw [← hy] at lb
      have hc := S1.out.cmp HC.out (by omega) x y
      have qf : i ≤ h ∧ h < j := by omega
      clear hM
      cases hlv : ltOf cf d[pN]! d[h]! with
      | false =>
        have hd : decide (cf x y < 0) = false := by rw [hx, hy]; exact hlv
        have HX : Hid (bs (fun c => !ltOf cf d[mid + m - 1 - c]! d[c]!) f (h + 1) j = bs (fun c => !ltOf cf d[mid + m - 1 - c]! d[c]!) (mid - (mid + m - b)) (mid + m - b) mid) := by
          show _ = _
          rw [← HO.out, bs, if_pos hlt, if_pos (by rw [← hh, ← hpN]; simp [hlv]), hh]
        have HH := Aside0.mk hh
        clear hx hy hlv hh hpN
        go_wp2_with fail
        go_quiet_grown (first | (go_at_fn g; refine Calls.grown_of (hc _ _)))
        have S2 : Aside (SW enc w0 blk off d (grow (wr.drewN nq) osq)) := S1.out.grown nq osq
        clear la lb hc S1
        generalize grow (wr.drewN nq) osq = w2 at S2 ⊢
        clear nq osq
        go_wp2
        go_roundg (j - (h + 1))
        case measure => omega
        case rel => have := HM.out; exact ⟨h + 1, j, f, by first | rfl | (congr 1; omega), rfl, by omega, by omega, hjb, by omega, by omega, S2, HX⟩
      | true =>
        have hd : decide (cf x y < 0) = true := by rw [hx, hy]; exact hlv
        have HX : Hid (bs (fun c => !ltOf cf d[mid + m - 1 - c]! d[c]!) f i h = bs (fun c => !ltOf cf d[mid + m - 1 - c]! d[c]!) (mid - (mid + m - b)) (mid + m - b) mid) := by
          show _ = _
          rw [← HO.out, bs, if_pos hlt, if_neg (by rw [← hh, ← hpN]; simp [hlv]), hh]
        have HH := Aside0.mk hh
        clear hx hy hlv hh hpN
        go_wp2_with fail
        go_quiet_grown (first | (go_at_fn g; refine Calls.grown_of (hc _ _)))
        have S2 : Aside (SW enc w0 blk off d (grow (wr.drewN nq) osq)) := S1.out.grown nq osq
        clear la lb hc S1
        generalize grow (wr.drewN nq) osq = w2 at S2 ⊢
        clear nq osq
        go_wp2
        go_roundg (h - i)
        case measure => omega
        case rel => have := HM.out; exact ⟨i, h, f, rfl, by first | rfl | (congr 1; omega), him, by omega, by omega, by omega, by omega, S2, HX⟩
    · obtain rfl : i = j := by omega
      have hsi : i = bs (fun c => !ltOf cf d[mid + m - 1 - c]! d[c]!) (mid - (mid + m - b)) (mid + m - b) mid := by
        rw [← HO.out]
        cases f with
        | zero => rw [bs]
        | succ f => rw [bs, if_neg hlt]
      have hF := HE.out
      rw [← hsi] at hF
      have hS := HS.out
      rw [← hsi] at hS
      have HF := Aside0.mk hF
      clear HO hsi HE hF HS
      have hM := HM.out
      have we : IntKind.i64.wrap ((mid : Int) + (m : Int) - (i : Int)) = (mid : Int) + (m : Int) - (i : Int) := by rw [IntKind.wrap_i64]; omega
      have ce : ((mid + m - i : Nat) : Int) = (mid : Int) + (m : Int) - (i : Int) := by omega
      have h1 : ∀ (wr : World), i < m → m < mid + m - i → Aside (SW enc w0 blk off d wr) → Calls Try.prog 163 #[.slice (some ⟨blk, off, none⟩) d.size cap, .int .i64 i, .int .i64 m, .int .i64 ((mid : Int) + (m : Int) - (i : Int)), .func (.func g) #[] cb] wr fun e w' => e = .returned (.tuple #[]) ∧ SW enc w0 blk off (rot m (m - i + (mid + m - i - m)) (m - i) (mid + m - i - m) d) w' := fun wr q1 q2 S => by
        have := rotate_calls enc g cb blk off cap i m (mid + m - i) d0 d w0 wr R hs S.out q1 q2 (by omega) hsz
        rw [ce] at this
        exact this
      have H1 := Aside0.mk h1
      have h2 : ∀ (dk : Array α) (wr : World), a < i → i < mid → dk.size = d.size → Aside (SW enc w0 blk off dk wr) → Calls Try.prog 156 #[.slice (some ⟨blk, off, none⟩) d.size cap, .int .i64 a, .int .i64 i, .int .i64 mid, .func (.func g) #[] cb] wr fun e w' => e = .returned (.tuple #[]) ∧ SW enc w0 blk off (sym (ltOf cf) f0 a i mid dk) w' := fun dk wr q1 q2 hz S => by
        have := HR.out a i mid dk wr q1 q2 (by omega) (by omega) (by omega) S.out
        rw [hz] at this
        exact this
      have H2 := Aside0.mk h2
      have h3 : ∀ (dk : Array α) (wr : World), mid < mid + m - i → mid + m - i < b → dk.size = d.size → Aside (SW enc w0 blk off dk wr) → Calls Try.prog 156 #[.slice (some ⟨blk, off, none⟩) d.size cap, .int .i64 mid, .int .i64 ((mid : Int) + (m : Int) - (i : Int)), .int .i64 b, .func (.func g) #[] cb] wr fun e w' => e = .returned (.tuple #[]) ∧ SW enc w0 blk off (sym (ltOf cf) f0 mid (mid + m - i) b dk) w' := fun dk wr q1 q2 hz S => by
        have := HR.out mid (mid + m - i) b dk wr q1 q2 (by omega) (by omega) (by omega) S.out
        rw [hz, ce] at this
        exact this
      have H3 := Aside0.mk h3
      clear h1 h2 h3 hM HM HR ce
      have z1 : (rot m (m - i + (mid + m - i - m)) (m - i) (mid + m - i - m) d).size = d.size := rot_size _ _ _ _ _
      by_cases b1 : i < mid
      · by_cases b2 : a < i
        · by_cases b3 : mid + m - i < b
          · have D1 : decide ((i : Int) < (m : Int)) = true := decide_eq_true (by omega)
            have D2 : decide ((m : Int) < (mid : Int) + (m : Int) - (i : Int)) = true := decide_eq_true (by omega)
            have D3 : decide ((a : Int) < (i : Int)) = true := decide_eq_true (by omega)
            have D4 : decide ((i : Int) < (mid : Int)) = true := decide_eq_true (by omega)
            have D5 : decide ((mid : Int) < (mid : Int) + (m : Int) - (i : Int)) = true := decide_eq_true (by omega)
            have D6 : decide ((mid : Int) + (m : Int) - (i : Int) < (b : Int)) = true := decide_eq_true (by omega)
            have q1 : i < m := by omega
            have q2 : m < mid + m - i := by omega
            have q3 : a < i := by omega
            have q4 : i < mid := by omega
            have q5 : mid < mid + m - i := by omega
            have q6 : mid + m - i < b := by omega
            have E := HF.out
            rw [if_pos (And.intro q1 q2), if_pos (And.intro q3 q4), if_pos (And.intro q5 q6)] at E
            have HG := Aside0.mk E
            clear E HF
            have K1 := Aside0.mk (fun (wr : World) S => H1.out wr q1 q2 S)
            have K2 := Aside0.mk (fun (wr : World) S => H2.out (rot m (m - i + (mid + m - i - m)) (m - i) (mid + m - i - m) d) wr q3 q4 z1 S)
            have z2 : (sym (ltOf cf) f0 a i mid (rot m (m - i + (mid + m - i - m)) (m - i) (mid + m - i - m) d)).size = d.size := (sym_size _ _ _ _ _ _).trans z1
            have K3 := Aside0.mk (fun (wr : World) S => H3.out (sym (ltOf cf) f0 a i mid (rot m (m - i + (mid + m - i - m)) (m - i) (mid + m - i - m) d)) wr q5 q6 z2 S)
            clear H1 H2 H3 z1 z2
            go_wp2_with fail
            with_reducible refine (K1.out _ S1).mono ?_
            rintro e1 w1 ⟨rfl, S2⟩
            have T1 : Aside (SW enc w0 blk off (rot m (m - i + (mid + m - i - m)) (m - i) (mid + m - i - m) d) w1) := S2
            clear S2
            go_wp2_with fail
            with_reducible refine (K2.out _ T1).mono ?_
            rintro e2 w2 ⟨rfl, S2⟩
            have T2 : Aside (SW enc w0 blk off (sym (ltOf cf) f0 a i mid (rot m (m - i + (mid + m - i - m)) (m - i) (mid + m - i - m) d)) w2) := S2
            clear S2
            go_wp2_with fail
            with_reducible refine (K3.out _ T2).mono ?_
            rintro e3 w3 ⟨rfl, S2⟩
            have T3 : Aside (SW enc w0 blk off (sym (ltOf cf) f0 mid (mid + m - i) b (sym (ltOf cf) f0 a i mid (rot m (m - i + (mid + m - i - m)) (m - i) (mid + m - i - m) d))) w3) := S2
            clear S2
            go_wp2
            go_end0
            exact ⟨rfl, by rw [HG.out]; exact T3.out⟩
          · have D1 : decide ((i : Int) < (m : Int)) = true := decide_eq_true (by omega)
            have D2 : decide ((m : Int) < (mid : Int) + (m : Int) - (i : Int)) = true := decide_eq_true (by omega)
            have D3 : decide ((a : Int) < (i : Int)) = true := decide_eq_true (by omega)
            have D4 : decide ((i : Int) < (mid : Int)) = true := decide_eq_true (by omega)
            have D5 : decide ((mid : Int) < (mid : Int) + (m : Int) - (i : Int)) = true := decide_eq_true (by omega)
            have D6 : decide ((mid : Int) + (m : Int) - (i : Int) < (b : Int)) = false := decide_eq_false (by omega)
            have q1 : i < m := by omega
            have q2 : m < mid + m - i := by omega
            have q3 : a < i := by omega
            have q4 : i < mid := by omega
            have n2 : ¬ (mid < mid + m - i ∧ mid + m - i < b) := by omega
            have E := HF.out
            rw [if_pos (And.intro q1 q2), if_pos (And.intro q3 q4), if_neg n2] at E
            have HG := Aside0.mk E
            clear E HF
            have K1 := Aside0.mk (fun (wr : World) S => H1.out wr q1 q2 S)
            have K2 := Aside0.mk (fun (wr : World) S => H2.out (rot m (m - i + (mid + m - i - m)) (m - i) (mid + m - i - m) d) wr q3 q4 z1 S)
            have z2 : (sym (ltOf cf) f0 a i mid (rot m (m - i + (mid + m - i - m)) (m - i) (mid + m - i - m) d)).size = d.size := (sym_size _ _ _ _ _ _).trans z1
            clear H1 H2 H3 z1 z2
            go_wp2_with fail
            with_reducible refine (K1.out _ S1).mono ?_
            rintro e1 w1 ⟨rfl, S2⟩
            have T1 : Aside (SW enc w0 blk off (rot m (m - i + (mid + m - i - m)) (m - i) (mid + m - i - m) d) w1) := S2
            clear S2
            go_wp2_with fail
            with_reducible refine (K2.out _ T1).mono ?_
            rintro e2 w2 ⟨rfl, S2⟩
            have T2 : Aside (SW enc w0 blk off (sym (ltOf cf) f0 a i mid (rot m (m - i + (mid + m - i - m)) (m - i) (mid + m - i - m) d)) w2) := S2
            clear S2
            go_wp2
            go_end0
            exact ⟨rfl, by rw [HG.out]; exact T2.out⟩
        · by_cases b3 : mid + m - i < b
          · have D1 : decide ((i : Int) < (m : Int)) = true := decide_eq_true (by omega)
            have D2 : decide ((m : Int) < (mid : Int) + (m : Int) - (i : Int)) = true := decide_eq_true (by omega)
            have D3 : decide ((a : Int) < (i : Int)) = false := decide_eq_false (by omega)
            have D5 : decide ((mid : Int) < (mid : Int) + (m : Int) - (i : Int)) = true := decide_eq_true (by omega)
            have D6 : decide ((mid : Int) + (m : Int) - (i : Int) < (b : Int)) = true := decide_eq_true (by omega)
            have q1 : i < m := by omega
            have q2 : m < mid + m - i := by omega
            have n1 : ¬ (a < i ∧ i < mid) := by omega
            have q5 : mid < mid + m - i := by omega
            have q6 : mid + m - i < b := by omega
            have E := HF.out
            rw [if_pos (And.intro q1 q2), if_neg n1, if_pos (And.intro q5 q6)] at E
            have HG := Aside0.mk E
            clear E HF
            have K1 := Aside0.mk (fun (wr : World) S => H1.out wr q1 q2 S)
            have K3 := Aside0.mk (fun (wr : World) S => H3.out (rot m (m - i + (mid + m - i - m)) (m - i) (mid + m - i - m) d) wr q5 q6 z1 S)
            clear H1 H2 H3 z1
            go_wp2_with fail
            with_reducible refine (K1.out _ S1).mono ?_
            rintro e1 w1 ⟨rfl, S2⟩
            have T1 : Aside (SW enc w0 blk off (rot m (m - i + (mid + m - i - m)) (m - i) (mid + m - i - m) d) w1) := S2
            clear S2
            go_wp2_with fail
            with_reducible refine (K3.out _ T1).mono ?_
            rintro e3 w3 ⟨rfl, S2⟩
            have T3 : Aside (SW enc w0 blk off (sym (ltOf cf) f0 mid (mid + m - i) b (rot m (m - i + (mid + m - i - m)) (m - i) (mid + m - i - m) d)) w3) := S2
            clear S2
            go_wp2
            go_end0
            exact ⟨rfl, by rw [HG.out]; exact T3.out⟩
          · have D1 : decide ((i : Int) < (m : Int)) = true := decide_eq_true (by omega)
            have D2 : decide ((m : Int) < (mid : Int) + (m : Int) - (i : Int)) = true := decide_eq_true (by omega)
            have D3 : decide ((a : Int) < (i : Int)) = false := decide_eq_false (by omega)
            have D5 : decide ((mid : Int) < (mid : Int) + (m : Int) - (i : Int)) = true := decide_eq_true (by omega)
            have D6 : decide ((mid : Int) + (m : Int) - (i : Int) < (b : Int)) = false := decide_eq_false (by omega)
            have q1 : i < m := by omega
            have q2 : m < mid + m - i := by omega
            have n1 : ¬ (a < i ∧ i < mid) := by omega
            have n2 : ¬ (mid < mid + m - i ∧ mid + m - i < b) := by omega
            have E := HF.out
            rw [if_pos (And.intro q1 q2), if_neg n1, if_neg n2] at E
            have HG := Aside0.mk E
            clear E HF
            have K1 := Aside0.mk (fun (wr : World) S => H1.out wr q1 q2 S)
            clear H1 H2 H3 z1
            go_wp2_with fail
            with_reducible refine (K1.out _ S1).mono ?_
            rintro e1 w1 ⟨rfl, S2⟩
            have T1 : Aside (SW enc w0 blk off (rot m (m - i + (mid + m - i - m)) (m - i) (mid + m - i - m) d) w1) := S2
            clear S2
            go_wp2
            go_end0
            exact ⟨rfl, by rw [HG.out]; exact T1.out⟩
      · by_cases b2 : a < i
        · by_cases b3 : mid + m - i < b
          · have D1 : decide ((i : Int) < (m : Int)) = true := decide_eq_true (by omega)
            have D2 : decide ((m : Int) < (mid : Int) + (m : Int) - (i : Int)) = false := decide_eq_false (by omega)
            have D3 : decide ((a : Int) < (i : Int)) = true := decide_eq_true (by omega)
            have D4 : decide ((i : Int) < (mid : Int)) = false := decide_eq_false (by omega)
            have D5 : decide ((mid : Int) < (mid : Int) + (m : Int) - (i : Int)) = true := decide_eq_true (by omega)
            have D6 : decide ((mid : Int) + (m : Int) - (i : Int) < (b : Int)) = true := decide_eq_true (by omega)
            have nr : ¬ (i < m ∧ m < mid + m - i) := by omega
            have n1 : ¬ (a < i ∧ i < mid) := by omega
            have q5 : mid < mid + m - i := by omega
            have q6 : mid + m - i < b := by omega
            have E := HF.out
            rw [if_neg nr, if_neg n1, if_pos (And.intro q5 q6)] at E
            have HG := Aside0.mk E
            clear E HF
            have K3 := Aside0.mk (fun (wr : World) S => H3.out d wr q5 q6 rfl S)
            clear H1 H2 H3 z1
            go_wp2_with fail
            with_reducible refine (K3.out _ S1).mono ?_
            rintro e3 w3 ⟨rfl, S2⟩
            have T3 : Aside (SW enc w0 blk off (sym (ltOf cf) f0 mid (mid + m - i) b d) w3) := S2
            clear S2
            go_wp2
            go_end0
            exact ⟨rfl, by rw [HG.out]; exact T3.out⟩
          · exfalso; omega
        · by_cases b3 : mid + m - i < b
          · exfalso; omega
          · exfalso; omega
end Go.Proofs.Ytefhljhpcpajgaa.F
set_option linter.unusedVariables false
namespace Go.Proofs.Ytefhljhpcpajgaa.F
open Go.Sort Go.Shelf Go.Lib
open Go.RowKit Go.Proofs.YtefhljhpcpajgaaX Go.Proofs.YtefhljhpcpajgaaW.PrintWords Go.Proofs.YtefhljhpcpajgaaW.PrintLast Go.Proofs.YtefhljhpcpajgaaW.PrintMore
open Go.Proofs.Ytefhljhpcpajgaa.Stable
set_option maxHeartbeats 16000000 in
set_option maxRecDepth 100000 in
theorem sym_midB {α : Type} [Inhabited α] (enc : α → Value) (cf : α → α → Int) (g : Nat) (cb : Array Value) (blk off cap a m b mid f0 : Nat) (d0 d : Array α) (w0 w : World) (eg : ∀ args w, (callFunc g args).run Try.prog w = .ok (.enter g args) w) (hcmp : CmpLays1 Try.prog g cb enc cf blk off d0.size w0) (R : Row1 enc w0 blk off d0) (hs : d0.size = d.size) (S : SW enc w0 blk off d w)
    (ha1 : a + 1 < m) (hm : m + 1 < b) (hmid : mid = (a + b) / 2) (hA : m ≤ mid) (hb : b ≤ d.size) (hsz : d.size < 4611686018427387904)
    (rec : ∀ (a m b : Nat) (d : Array α) (w : World), a < m → m < b → b - a ≤ f0 → b ≤ d.size → d0.size = d.size → SW enc w0 blk off d w → Calls Try.prog 156 #[.slice (some ⟨blk, off, none⟩) d.size cap, .int .i64 a, .int .i64 m, .int .i64 b, .func (.func g) #[] cb] w fun e w' => e = .returned (.tuple #[]) ∧ SW enc w0 blk off (sym (ltOf cf) f0 a m b d) w') (hf0 : b - a ≤ f0 + 1) :
    Calls Try.prog 156 #[.slice (some ⟨blk, off, none⟩) d.size cap, .int .i64 a, .int .i64 m, .int .i64 b, .func (.func g) #[] cb] w fun e w' => e = .returned (.tuple #[]) ∧ SW enc w0 blk off (sym (ltOf cf) (f0 + 1) a m b d) w' := by
  have mixed : Try.prog.follows Departure.mixedOrders = true := by kernel_rfl
  have u22 := run_underlying Try.underlying22
  have hcl0 := R.hO.cells
  simp only [Value.cells] at hcl0
  have hst := R.hO.store Try.prog
  have HC : Aside _ := hcmp
  have HR : Aside _ := rec
  have S0 : Aside (SW enc w0 blk off d w) := S
  have hma : IntKind.i64.wrap ((m : Int) - (a : Int)) = (m : Int) - (a : Int) := by rw [IntKind.wrap_i64]; omega
  have hma' : (((m : Int) - (a : Int) == 1) = false) := by simp; omega
  have hmb : IntKind.i64.wrap ((b : Int) - (m : Int)) = (b : Int) - (m : Int) := by rw [IntKind.wrap_i64]; omega
  have hmb' : (((b : Int) - (m : Int) == 1) = false) := by simp; omega
  have emid : ((a : Int) + (b : Int)) / 2 = (mid : Int) := by omega
  have hA' : decide ((mid : Int) < (m : Int)) = false := decide_eq_false (by omega)
  have hA2 : ((mid : Int) < (m : Int)) = False := eq_false (by omega)
  have hwn : IntKind.i64.wrap ((mid : Int) + (m : Int)) = (mid : Int) + (m : Int) := by rw [IntKind.wrap_i64]; omega
  have hwb : IntKind.i64.wrap ((mid : Int) + (m : Int) - (b : Int)) = (mid : Int) + (m : Int) - (b : Int) := by rw [IntKind.wrap_i64]; omega
  have hwp : IntKind.i64.wrap ((mid : Int) + (m : Int) - 1) = (mid : Int) + (m : Int) - 1 := by rw [IntKind.wrap_i64]; omega
  have HE : Aside0 (sym (ltOf cf) (f0 + 1) a m b d = (if mid < mid + m - (bs (fun c => !ltOf cf d[mid + m - 1 - c]! d[c]!) (m - a) a m) ∧ mid + m - (bs (fun c => !ltOf cf d[mid + m - 1 - c]! d[c]!) (m - a) a m) < b then sym (ltOf cf) f0 mid (mid + m - (bs (fun c => !ltOf cf d[mid + m - 1 - c]! d[c]!) (m - a) a m)) b (if a < (bs (fun c => !ltOf cf d[mid + m - 1 - c]! d[c]!) (m - a) a m) ∧ (bs (fun c => !ltOf cf d[mid + m - 1 - c]! d[c]!) (m - a) a m) < mid then sym (ltOf cf) f0 a (bs (fun c => !ltOf cf d[mid + m - 1 - c]! d[c]!) (m - a) a m) mid (if (bs (fun c => !ltOf cf d[mid + m - 1 - c]! d[c]!) (m - a) a m) < m ∧ m < mid + m - (bs (fun c => !ltOf cf d[mid + m - 1 - c]! d[c]!) (m - a) a m) then rot m (m - (bs (fun c => !ltOf cf d[mid + m - 1 - c]! d[c]!) (m - a) a m) + (mid + m - (bs (fun c => !ltOf cf d[mid + m - 1 - c]! d[c]!) (m - a) a m) - m)) (m - (bs (fun c => !ltOf cf d[mid + m - 1 - c]! d[c]!) (m - a) a m)) (mid + m - (bs (fun c => !ltOf cf d[mid + m - 1 - c]! d[c]!) (m - a) a m) - m) d else d) else (if (bs (fun c => !ltOf cf d[mid + m - 1 - c]! d[c]!) (m - a) a m) < m ∧ m < mid + m - (bs (fun c => !ltOf cf d[mid + m - 1 - c]! d[c]!) (m - a) a m) then rot m (m - (bs (fun c => !ltOf cf d[mid + m - 1 - c]! d[c]!) (m - a) a m) + (mid + m - (bs (fun c => !ltOf cf d[mid + m - 1 - c]! d[c]!) (m - a) a m) - m)) (m - (bs (fun c => !ltOf cf d[mid + m - 1 - c]! d[c]!) (m - a) a m)) (mid + m - (bs (fun c => !ltOf cf d[mid + m - 1 - c]! d[c]!) (m - a) a m) - m) d else d)) else (if a < (bs (fun c => !ltOf cf d[mid + m - 1 - c]! d[c]!) (m - a) a m) ∧ (bs (fun c => !ltOf cf d[mid + m - 1 - c]! d[c]!) (m - a) a m) < mid then sym (ltOf cf) f0 a (bs (fun c => !ltOf cf d[mid + m - 1 - c]! d[c]!) (m - a) a m) mid (if (bs (fun c => !ltOf cf d[mid + m - 1 - c]! d[c]!) (m - a) a m) < m ∧ m < mid + m - (bs (fun c => !ltOf cf d[mid + m - 1 - c]! d[c]!) (m - a) a m) then rot m (m - (bs (fun c => !ltOf cf d[mid + m - 1 - c]! d[c]!) (m - a) a m) + (mid + m - (bs (fun c => !ltOf cf d[mid + m - 1 - c]! d[c]!) (m - a) a m) - m)) (m - (bs (fun c => !ltOf cf d[mid + m - 1 - c]! d[c]!) (m - a) a m)) (mid + m - (bs (fun c => !ltOf cf d[mid + m - 1 - c]! d[c]!) (m - a) a m) - m) d else d) else (if (bs (fun c => !ltOf cf d[mid + m - 1 - c]! d[c]!) (m - a) a m) < m ∧ m < mid + m - (bs (fun c => !ltOf cf d[mid + m - 1 - c]! d[c]!) (m - a) a m) then rot m (m - (bs (fun c => !ltOf cf d[mid + m - 1 - c]! d[c]!) (m - a) a m) + (mid + m - (bs (fun c => !ltOf cf d[mid + m - 1 - c]! d[c]!) (m - a) a m) - m)) (m - (bs (fun c => !ltOf cf d[mid + m - 1 - c]! d[c]!) (m - a) a m)) (mid + m - (bs (fun c => !ltOf cf d[mid + m - 1 - c]! d[c]!) (m - a) a m) - m) d else d)))) := ⟨by
    rw [sym, if_neg (by omega), if_neg (by omega), ← hmid]
    dsimp only
    rw [if_neg (show ¬ mid < m by omega), if_neg (show ¬ mid < m by omega)]⟩
  have HS : Aside0 (a ≤ bs (fun c => !ltOf cf d[mid + m - 1 - c]! d[c]!) (m - a) a m ∧ bs (fun c => !ltOf cf d[mid + m - 1 - c]! d[c]!) (m - a) a m ≤ m) := ⟨bs_in _ _ _ _ (by omega) (by omega)⟩
  have HM := Aside0.mk hmid
  clear S hcmp rec hmid
  go_enter Try.func156, Try.ntmps156
  go_wp2
  go_loopg [20, 21] (m - a) (fun g1 vi vj wr => ∃ (i j f : Nat), vi = .int .i64 i ∧ vj = .int .i64 j ∧ a ≤ i ∧ i ≤ j ∧ j ≤ m ∧ j ≤ g1 + i ∧ j ≤ f + i ∧ Aside (SW enc w0 blk off d wr) ∧ Hid (bs (fun c => !ltOf cf d[mid + m - 1 - c]! d[c]!) f i j = bs (fun c => !ltOf cf d[mid + m - 1 - c]! d[c]!) (m - a) a m))
  case atStart => have := HM.out; exact ⟨a, m, m - a, by first | rfl | (congr 1; omega), by first | rfl | (congr 1; omega), Nat.le_refl _, by omega, Nat.le_refl _, by omega, by omega, S0, rfl⟩
  case round =>
    clear S0
    obtain ⟨i, j, f, rfl, rfl, him, hij, hjb, hg1, hf, S1, HO⟩ := hrel
    by_cases hlt : i < j
    · have hltz : (i : Int) < (j : Int) := by omega
      obtain ⟨f, rfl⟩ : ∃ q, f = q + 1 := ⟨f - 1, by omega⟩
      have hM := HM.out
      obtain ⟨h, hh⟩ : ∃ q, q = (i + j) / 2 := ⟨_, rfl⟩
      obtain ⟨pN, hpN⟩ : ∃ q, q = mid + m - 1 - h := ⟨_, rfl⟩
      have eh : ((i : Int) + (j : Int)) / 2 = (h : Int) := by omega
      have ba : (h : Int) < (d.size : Int) := by omega
      have rh : IntKind.i64.wrap ((h : Int) + 1) = (h : Int) + 1 := by rw [IntKind.wrap_i64]; omega
      have esub : (mid : Int) + (m : Int) - 1 - (h : Int) = (pN : Int) := by omega
      have bc : (pN : Int) < (d.size : Int) := by omega
      have rc : IntKind.i64.wrap ((pN : Int)) = (pN : Int) := by rw [IntKind.wrap_i64]; omega
      obtain ⟨x, hx⟩ : ∃ x, x = d[pN]! := ⟨_, rfl⟩
      obtain ⟨y, hy⟩ : ∃ x, x = d[h]! := ⟨_, rfl⟩
      have la := S1.out.cl R (by omega) pN (by omega)
      have lb := S1.out.cl R (by omega) h (by omega)
      rw [← hx] at la
      rw [← hy] at lb
      have hc := S1.out.cmp HC.out (by omega) x y
      have qf : i ≤ h ∧ h < j := by omega
      clear hM
      cases hlv : ltOf cf d[pN]! d[h]! with
      | false =>
        have hd : decide (cf x y < 0) = false := by rw [hx, hy]; exact hlv
        have HX : Hid (bs (fun c => !ltOf cf d[mid + m - 1 - c]! d[c]!) f (h + 1) j = bs (fun c => !ltOf cf d[mid + m - 1 - c]! d[c]!) (m - a) a m) := by
          show _ = _
          rw [← HO.out, bs, if_pos hlt, if_pos (by rw [← hh, ← hpN]; simp [hlv]), hh]
        have HH := Aside0.mk hh
        clear hx hy hlv hh hpN
        go_wp2_with fail
        go_quiet_grown (first | (go_at_fn g; refine Calls.grown_of (hc _ _)))
        have S2 : Aside (SW enc w0 blk off d (grow (wr.drewN nq) osq)) := S1.out.grown nq osq
        clear la lb hc S1
        generalize grow (wr.drewN nq) osq = w2 at S2 ⊢
        clear nq osq
        go_wp2
        go_roundg (j - (h + 1))
        case measure => omega
        case rel => have := HM.out; exact ⟨h + 1, j, f, by first | rfl | (congr 1; omega), rfl, by omega, by omega, hjb, by omega, by omega, S2, HX⟩
      | true =>
        have hd : decide (cf x y < 0) = true := by rw [hx, hy]; exact hlv
        have HX : Hid (bs (fun c => !ltOf cf d[mid + m - 1 - c]! d[c]!) f i h = bs (fun c => !ltOf cf d[mid + m - 1 - c]! d[c]!) (m - a) a m) := by
          show _ = _
          rw [← HO.out, bs, if_pos hlt, if_neg (by rw [← hh, ← hpN]; simp [hlv]), hh]
        have HH := Aside0.mk hh
        clear hx hy hlv hh hpN
        go_wp2_with fail
        go_quiet_grown (first | (go_at_fn g; refine Calls.grown_of (hc _ _)))
        have S2 : Aside (SW enc w0 blk off d (grow (wr.drewN nq) osq)) := S1.out.grown nq osq
        clear la lb hc S1
        generalize grow (wr.drewN nq) osq = w2 at S2 ⊢
        clear nq osq
        go_wp2
        go_roundg (h - i)
        case measure => omega
        case rel => have := HM.out; exact ⟨i, h, f, rfl, by first | rfl | (congr 1; omega), him, by omega, by omega, by omega, by omega, S2, HX⟩
    · obtain rfl : i = j := by omega
      have hsi : i = bs (fun c => !ltOf cf d[mid + m - 1 - c]! d[c]!) (m - a) a m := by
        rw [← HO.out]
        cases f with
        | zero => rw [bs]
        | succ f => rw [bs, if_neg hlt]
      have hF := HE.out
      rw [← hsi] at hF
      have hS := HS.out
      rw [← hsi] at hS
      have HF := Aside0.mk hF
      clear HO hsi HE hF HS
      have hM := HM.out
      have we : IntKind.i64.wrap ((mid : Int) + (m : Int) - (i : Int)) = (mid : Int) + (m : Int) - (i : Int) := by rw [IntKind.wrap_i64]; omega
      have ce : ((mid + m - i : Nat) : Int) = (mid : Int) + (m : Int) - (i : Int) := by omega
      have h1 : ∀ (wr : World), i < m → m < mid + m - i → Aside (SW enc w0 blk off d wr) → Calls Try.prog 163 #[.slice (some ⟨blk, off, none⟩) d.size cap, .int .i64 i, .int .i64 m, .int .i64 ((mid : Int) + (m : Int) - (i : Int)), .func (.func g) #[] cb] wr fun e w' => e = .returned (.tuple #[]) ∧ SW enc w0 blk off (rot m (m - i + (mid + m - i - m)) (m - i) (mid + m - i - m) d) w' := fun wr q1 q2 S => by
        have := rotate_calls enc g cb blk off cap i m (mid + m - i) d0 d w0 wr R hs S.out q1 q2 (by omega) hsz
        rw [ce] at this
        exact this
      have H1 := Aside0.mk h1
      have h2 : ∀ (dk : Array α) (wr : World), a < i → i < mid → dk.size = d.size → Aside (SW enc w0 blk off dk wr) → Calls Try.prog 156 #[.slice (some ⟨blk, off, none⟩) d.size cap, .int .i64 a, .int .i64 i, .int .i64 mid, .func (.func g) #[] cb] wr fun e w' => e = .returned (.tuple #[]) ∧ SW enc w0 blk off (sym (ltOf cf) f0 a i mid dk) w' := fun dk wr q1 q2 hz S => by
        have := HR.out a i mid dk wr q1 q2 (by omega) (by omega) (by omega) S.out
        rw [hz] at this
        exact this
      have H2 := Aside0.mk h2
      have h3 : ∀ (dk : Array α) (wr : World), mid < mid + m - i → mid + m - i < b → dk.size = d.size → Aside (SW enc w0 blk off dk wr) → Calls Try.prog 156 #[.slice (some ⟨blk, off, none⟩) d.size cap, .int .i64 mid, .int .i64 ((mid : Int) + (m : Int) - (i : Int)), .int .i64 b, .func (.func g) #[] cb] wr fun e w' => e = .returned (.tuple #[]) ∧ SW enc w0 blk off (sym (ltOf cf) f0 mid (mid + m - i) b dk) w' := fun dk wr q1 q2 hz S => by
        have := HR.out mid (mid + m - i) b dk wr q1 q2 (by omega) (by omega) (by omega) S.out
        rw [hz, ce] at this
        exact this
      have H3 := Aside0.mk h3
      clear h1 h2 h3 hM HM HR ce
      have z1 : (rot m (m - i + (mid + m - i - m)) (m - i) (mid + m - i - m) d).size = d.size := rot_size _ _ _ _ _
      by_cases b1 : i < m
      · by_cases b2 : a < i
        · by_cases b4 : i < mid
          · by_cases b3 : mid + m - i < b
            · have D1 : decide ((i : Int) < (m : Int)) = true := decide_eq_true (by omega)
              have D2 : decide ((m : Int) < (mid : Int) + (m : Int) - (i : Int)) = true := decide_eq_true (by omega)
              have D3 : decide ((a : Int) < (i : Int)) = true := decide_eq_true (by omega)
              have D4 : decide ((i : Int) < (mid : Int)) = true := decide_eq_true (by omega)
              have D5 : decide ((mid : Int) < (mid : Int) + (m : Int) - (i : Int)) = true := decide_eq_true (by omega)
              have D6 : decide ((mid : Int) + (m : Int) - (i : Int) < (b : Int)) = true := decide_eq_true (by omega)
              have q1 : i < m := by omega
              have q2 : m < mid + m - i := by omega
              have q3 : a < i := by omega
              have q4 : i < mid := by omega
              have q5 : mid < mid + m - i := by omega
              have q6 : mid + m - i < b := by omega
              have E := HF.out
              rw [if_pos (And.intro q1 q2), if_pos (And.intro q3 q4), if_pos (And.intro q5 q6)] at E
              have HG := Aside0.mk E
              clear E HF
              have K1 := Aside0.mk (fun (wr : World) S => H1.out wr q1 q2 S)
              have K2 := Aside0.mk (fun (wr : World) S => H2.out (rot m (m - i + (mid + m - i - m)) (m - i) (mid + m - i - m) d) wr q3 q4 z1 S)
              have z2 : (sym (ltOf cf) f0 a i mid (rot m (m - i + (mid + m - i - m)) (m - i) (mid + m - i - m) d)).size = d.size := (sym_size _ _ _ _ _ _).trans z1
              have K3 := Aside0.mk (fun (wr : World) S => H3.out (sym (ltOf cf) f0 a i mid (rot m (m - i + (mid + m - i - m)) (m - i) (mid + m - i - m) d)) wr q5 q6 z2 S)
              clear H1 H2 H3 z1 z2
              go_wp2_with fail
              with_reducible refine (K1.out _ S1).mono ?_
              rintro e1 w1 ⟨rfl, S2⟩
              have T1 : Aside (SW enc w0 blk off (rot m (m - i + (mid + m - i - m)) (m - i) (mid + m - i - m) d) w1) := S2
              clear S2
              go_wp2_with fail
              with_reducible refine (K2.out _ T1).mono ?_
              rintro e2 w2 ⟨rfl, S2⟩
              have T2 : Aside (SW enc w0 blk off (sym (ltOf cf) f0 a i mid (rot m (m - i + (mid + m - i - m)) (m - i) (mid + m - i - m) d)) w2) := S2
              clear S2
              go_wp2_with fail
              with_reducible refine (K3.out _ T2).mono ?_
              rintro e3 w3 ⟨rfl, S2⟩
              have T3 : Aside (SW enc w0 blk off (sym (ltOf cf) f0 mid (mid + m - i) b (sym (ltOf cf) f0 a i mid (rot m (m - i + (mid + m - i - m)) (m - i) (mid + m - i - m) d))) w3) := S2
              clear S2
              go_wp2
              go_end0
              exact ⟨rfl, by rw [HG.out]; exact T3.out⟩
            · have D1 : decide ((i : Int) < (m : Int)) = true := decide_eq_true (by omega)
              have D2 : decide ((m : Int) < (mid : Int) + (m : Int) - (i : Int)) = true := decide_eq_true (by omega)
              have D3 : decide ((a : Int) < (i : Int)) = true := decide_eq_true (by omega)
              have D4 : decide ((i : Int) < (mid : Int)) = true := decide_eq_true (by omega)
              have D5 : decide ((mid : Int) < (mid : Int) + (m : Int) - (i : Int)) = true := decide_eq_true (by omega)
              have D6 : decide ((mid : Int) + (m : Int) - (i : Int) < (b : Int)) = false := decide_eq_false (by omega)
              have q1 : i < m := by omega
              have q2 : m < mid + m - i := by omega
              have q3 : a < i := by omega
              have q4 : i < mid := by omega
              have n2 : ¬ (mid < mid + m - i ∧ mid + m - i < b) := by omega
              have E := HF.out
              rw [if_pos (And.intro q1 q2), if_pos (And.intro q3 q4), if_neg n2] at E
              have HG := Aside0.mk E
              clear E HF
              have K1 := Aside0.mk (fun (wr : World) S => H1.out wr q1 q2 S)
              have K2 := Aside0.mk (fun (wr : World) S => H2.out (rot m (m - i + (mid + m - i - m)) (m - i) (mid + m - i - m) d) wr q3 q4 z1 S)
              have z2 : (sym (ltOf cf) f0 a i mid (rot m (m - i + (mid + m - i - m)) (m - i) (mid + m - i - m) d)).size = d.size := (sym_size _ _ _ _ _ _).trans z1
              clear H1 H2 H3 z1 z2
              go_wp2_with fail
              with_reducible refine (K1.out _ S1).mono ?_
              rintro e1 w1 ⟨rfl, S2⟩
              have T1 : Aside (SW enc w0 blk off (rot m (m - i + (mid + m - i - m)) (m - i) (mid + m - i - m) d) w1) := S2
              clear S2
              go_wp2_with fail
              with_reducible refine (K2.out _ T1).mono ?_
              rintro e2 w2 ⟨rfl, S2⟩
              have T2 : Aside (SW enc w0 blk off (sym (ltOf cf) f0 a i mid (rot m (m - i + (mid + m - i - m)) (m - i) (mid + m - i - m) d)) w2) := S2
              clear S2
              go_wp2
              go_end0
              exact ⟨rfl, by rw [HG.out]; exact T2.out⟩
          · by_cases b3 : mid + m - i < b
            · exfalso; omega
            · exfalso; omega
        · by_cases b3 : mid + m - i < b
          · have D1 : decide ((i : Int) < (m : Int)) = true := decide_eq_true (by omega)
            have D2 : decide ((m : Int) < (mid : Int) + (m : Int) - (i : Int)) = true := decide_eq_true (by omega)
            have D3 : decide ((a : Int) < (i : Int)) = false := decide_eq_false (by omega)
            have D5 : decide ((mid : Int) < (mid : Int) + (m : Int) - (i : Int)) = true := decide_eq_true (by omega)
            have D6 : decide ((mid : Int) + (m : Int) - (i : Int) < (b : Int)) = true := decide_eq_true (by omega)
            have q1 : i < m := by omega
            have q2 : m < mid + m - i := by omega
            have n1 : ¬ (a < i ∧ i < mid) := by omega
            have q5 : mid < mid + m - i := by omega
            have q6 : mid + m - i < b := by omega
            have E := HF.out
            rw [if_pos (And.intro q1 q2), if_neg n1, if_pos (And.intro q5 q6)] at E
            have HG := Aside0.mk E
            clear E HF
            have K1 := Aside0.mk (fun (wr : World) S => H1.out wr q1 q2 S)
            have K3 := Aside0.mk (fun (wr : World) S => H3.out (rot m (m - i + (mid + m - i - m)) (m - i) (mid + m - i - m) d) wr q5 q6 z1 S)
            clear H1 H2 H3 z1
            go_wp2_with fail
            with_reducible refine (K1.out _ S1).mono ?_
            rintro e1 w1 ⟨rfl, S2⟩
            have T1 : Aside (SW enc w0 blk off (rot m (m - i + (mid + m - i - m)) (m - i) (mid + m - i - m) d) w1) := S2
            clear S2
            go_wp2_with fail
            with_reducible refine (K3.out _ T1).mono ?_
            rintro e3 w3 ⟨rfl, S2⟩
            have T3 : Aside (SW enc w0 blk off (sym (ltOf cf) f0 mid (mid + m - i) b (rot m (m - i + (mid + m - i - m)) (m - i) (mid + m - i - m) d)) w3) := S2
            clear S2
            go_wp2
            go_end0
            exact ⟨rfl, by rw [HG.out]; exact T3.out⟩
          · have D1 : decide ((i : Int) < (m : Int)) = true := decide_eq_true (by omega)
            have D2 : decide ((m : Int) < (mid : Int) + (m : Int) - (i : Int)) = true := decide_eq_true (by omega)
            have D3 : decide ((a : Int) < (i : Int)) = false := decide_eq_false (by omega)
            have D5 : decide ((mid : Int) < (mid : Int) + (m : Int) - (i : Int)) = true := decide_eq_true (by omega)
            have D6 : decide ((mid : Int) + (m : Int) - (i : Int) < (b : Int)) = false := decide_eq_false (by omega)
            have q1 : i < m := by omega
            have q2 : m < mid + m - i := by omega
            have n1 : ¬ (a < i ∧ i < mid) := by omega
            have n2 : ¬ (mid < mid + m - i ∧ mid + m - i < b) := by omega
            have E := HF.out
            rw [if_pos (And.intro q1 q2), if_neg n1, if_neg n2] at E
            have HG := Aside0.mk E
            clear E HF
            have K1 := Aside0.mk (fun (wr : World) S => H1.out wr q1 q2 S)
            clear H1 H2 H3 z1
            go_wp2_with fail
            with_reducible refine (K1.out _ S1).mono ?_
            rintro e1 w1 ⟨rfl, S2⟩
            have T1 : Aside (SW enc w0 blk off (rot m (m - i + (mid + m - i - m)) (m - i) (mid + m - i - m) d) w1) := S2
            clear S2
            go_wp2
            go_end0
            exact ⟨rfl, by rw [HG.out]; exact T1.out⟩
      · by_cases b2 : a < i
        · by_cases b4 : i < mid
          · by_cases b3 : mid + m - i < b
            · have D1 : decide ((i : Int) < (m : Int)) = false := decide_eq_false (by omega)
              have D3 : decide ((a : Int) < (i : Int)) = true := decide_eq_true (by omega)
              have D4 : decide ((i : Int) < (mid : Int)) = true := decide_eq_true (by omega)
              have D5 : decide ((mid : Int) < (mid : Int) + (m : Int) - (i : Int)) = false := decide_eq_false (by omega)
              have nr : ¬ (i < m ∧ m < mid + m - i) := by omega
              have q3 : a < i := by omega
              have q4 : i < mid := by omega
              have n2 : ¬ (mid < mid + m - i ∧ mid + m - i < b) := by omega
              have E := HF.out
              rw [if_neg nr, if_pos (And.intro q3 q4), if_neg n2] at E
              have HG := Aside0.mk E
              clear E HF
              have K2 := Aside0.mk (fun (wr : World) S => H2.out d wr q3 q4 rfl S)
              have z2 : (sym (ltOf cf) f0 a i mid d).size = d.size := (sym_size _ _ _ _ _ _).trans rfl
              clear H1 H2 H3 z1 z2
              go_wp2_with fail
              with_reducible refine (K2.out _ S1).mono ?_
              rintro e2 w2 ⟨rfl, S2⟩
              have T2 : Aside (SW enc w0 blk off (sym (ltOf cf) f0 a i mid d) w2) := S2
              clear S2
              go_wp2
              go_end0
              exact ⟨rfl, by rw [HG.out]; exact T2.out⟩
            · have D1 : decide ((i : Int) < (m : Int)) = false := decide_eq_false (by omega)
              have D3 : decide ((a : Int) < (i : Int)) = true := decide_eq_true (by omega)
              have D4 : decide ((i : Int) < (mid : Int)) = true := decide_eq_true (by omega)
              have D5 : decide ((mid : Int) < (mid : Int) + (m : Int) - (i : Int)) = false := decide_eq_false (by omega)
              have nr : ¬ (i < m ∧ m < mid + m - i) := by omega
              have q3 : a < i := by omega
              have q4 : i < mid := by omega
              have n2 : ¬ (mid < mid + m - i ∧ mid + m - i < b) := by omega
              have E := HF.out
              rw [if_neg nr, if_pos (And.intro q3 q4), if_neg n2] at E
              have HG := Aside0.mk E
              clear E HF
              have K2 := Aside0.mk (fun (wr : World) S => H2.out d wr q3 q4 rfl S)
              have z2 : (sym (ltOf cf) f0 a i mid d).size = d.size := (sym_size _ _ _ _ _ _).trans rfl
              clear H1 H2 H3 z1 z2
              go_wp2_with fail
              with_reducible refine (K2.out _ S1).mono ?_
              rintro e2 w2 ⟨rfl, S2⟩
              have T2 : Aside (SW enc w0 blk off (sym (ltOf cf) f0 a i mid d) w2) := S2
              clear S2
              go_wp2
              go_end0
              exact ⟨rfl, by rw [HG.out]; exact T2.out⟩
          · by_cases b3 : mid + m - i < b
            · have D1 : decide ((i : Int) < (m : Int)) = false := decide_eq_false (by omega)
              have D3 : decide ((a : Int) < (i : Int)) = true := decide_eq_true (by omega)
              have D4 : decide ((i : Int) < (mid : Int)) = false := decide_eq_false (by omega)
              have D5 : decide ((mid : Int) < (mid : Int) + (m : Int) - (i : Int)) = false := decide_eq_false (by omega)
              have nr : ¬ (i < m ∧ m < mid + m - i) := by omega
              have n1 : ¬ (a < i ∧ i < mid) := by omega
              have n2 : ¬ (mid < mid + m - i ∧ mid + m - i < b) := by omega
              have E := HF.out
              rw [if_neg nr, if_neg n1, if_neg n2] at E
              have HG := Aside0.mk E
              clear E HF
              clear H1 H2 H3 z1
              go_wp2
              go_end0
              exact ⟨rfl, by rw [HG.out]; exact S1.out⟩
            · have D1 : decide ((i : Int) < (m : Int)) = false := decide_eq_false (by omega)
              have D3 : decide ((a : Int) < (i : Int)) = true := decide_eq_true (by omega)
              have D4 : decide ((i : Int) < (mid : Int)) = false := decide_eq_false (by omega)
              have D5 : decide ((mid : Int) < (mid : Int) + (m : Int) - (i : Int)) = false := decide_eq_false (by omega)
              have nr : ¬ (i < m ∧ m < mid + m - i) := by omega
              have n1 : ¬ (a < i ∧ i < mid) := by omega
              have n2 : ¬ (mid < mid + m - i ∧ mid + m - i < b) := by omega
              have E := HF.out
              rw [if_neg nr, if_neg n1, if_neg n2] at E
              have HG := Aside0.mk E
              clear E HF
              clear H1 H2 H3 z1
              go_wp2
              go_end0
              exact ⟨rfl, by rw [HG.out]; exact S1.out⟩
        · by_cases b3 : mid + m - i < b
          · exfalso; omega
          · exfalso; omega
end Go.Proofs.Ytefhljhpcpajgaa.F
set_option linter.unusedVariables false
namespace Go.Proofs.Ytefhljhpcpajgaa.F
open Go.Sort Go.Shelf Go.Lib
open Go.RowKit Go.Proofs.YtefhljhpcpajgaaX Go.Proofs.YtefhljhpcpajgaaW.PrintWords Go.Proofs.YtefhljhpcpajgaaW.PrintLast Go.Proofs.YtefhljhpcpajgaaW.PrintMore
open Go.Proofs.Ytefhljhpcpajgaa.Stable
set_option maxHeartbeats 8000000 in
set_option maxRecDepth 100000 in
theorem stable_calls {α : Type} [Inhabited α] (enc : α → Value) (cf : α → α → Int) (g : Nat) (cb : Array Value) (blk0 off cap : Nat) (d : Array α) (w0 w : World) (eg : ∀ args w, (callFunc g args).run Try.prog w = .ok (.enter g args) w) (hcmp : CmpLays1 Try.prog g cb enc cf blk0 off d.size w0) (R : Row1 enc w0 blk0 off d) (S : SW enc w0 blk0 off d w) (hsz : d.size < 1152921504606846976)
    (sym_calls : ∀ (f a m b : Nat) (dk : Array α) (w : World), b - a ≤ f → a < m → m < b → b ≤ dk.size → d.size = dk.size → SW enc w0 blk0 off dk w → Calls Try.prog 156 #[.slice (some ⟨blk0, off, none⟩) dk.size cap, .int .i64 a, .int .i64 m, .int .i64 b, .func (.func g) #[] cb] w fun e w' => e = .returned (.tuple #[]) ∧ SW enc w0 blk0 off (sym (ltOf cf) f a m b dk) w') :
    Calls Try.prog 148 #[.slice (some ⟨blk0, off, none⟩) d.size cap, .int .i64 (d.size : Int), .func (.func g) #[] cb] w fun e w' => e = .returned (.tuple #[]) ∧ SW enc w0 blk0 off (stable (ltOf cf) d.size d) w' := by
  have HC := Aside0.mk hcmp
  have S0 : Aside (SW enc w0 blk0 off d w) := S
  obtain ⟨n, hn⟩ : ∃ q, q = d.size := ⟨_, rfl⟩
  have HN := Aside0.mk hn
  have hI : ∀ (a b : Nat) (dk : Array α) (wr : World), a ≤ b → b ≤ n → dk.size = n → Aside (SW enc w0 blk0 off dk wr) → Calls Try.prog 155 #[.slice (some ⟨blk0, off, none⟩) n cap, .int .i64 a, .int .i64 b, .func (.func g) #[] cb] wr fun e w' => e = .returned (.tuple #[]) ∧ SW enc w0 blk0 off (Sort.insertionSort (ltOf cf) dk a b) w' := fun a b dk wr h1 h2 hz S => by
    have := Try.insertionSortCmpFunc_s enc cf g cb blk0 off cap a b d dk w0 wr eg HC.out R (by omega) S.out h1 (by omega) (by omega)
    rw [hz] at this
    exact this
  have hY : ∀ (a m b : Nat) (dk : Array α) (wr : World), a < m → m < b → b ≤ n → dk.size = n → Aside (SW enc w0 blk0 off dk wr) → Calls Try.prog 156 #[.slice (some ⟨blk0, off, none⟩) n cap, .int .i64 a, .int .i64 m, .int .i64 b, .func (.func g) #[] cb] wr fun e w' => e = .returned (.tuple #[]) ∧ SW enc w0 blk0 off (sym (ltOf cf) n a m b dk) w' := fun a m b dk wr h1 h2 h3 hz S => by
    have := sym_calls n a m b dk wr (by omega) h1 h2 (by omega) (by omega) S.out
    rw [hz] at this
    exact this
  have HI := Aside0.mk hI
  have HY := Aside0.mk hY
  rw [← hn]
  have hsz2 : n < 1152921504606846976 := by omega
  clear hcmp S hI hY sym_calls hn hsz R eg
  go_enter Try.func148, Try.ntmps148
  go_wp2
  go_loopg [7, 8] n (fun g1 v7 v8 wr => ∃ (a f : Nat) (dk : Array α), v7 = .int .i64 a ∧ v8 = .int .i64 ((a : Int) + 20) ∧ a ≤ n ∧ n < a + 20 * f + 20 ∧ n ≤ g1 + a ∧ dk.size = n ∧ Aside (SW enc w0 blk0 off dk wr) ∧ Hid (blk (ltOf cf) n (f + 1) a dk = blk (ltOf cf) n (n + 1) 0 d))
  case atStart => have := HN.out; exact ⟨0, n, d, by first | rfl | go_num, by first | rfl | go_num, by omega, by omega, by omega, by omega, S0, rfl⟩
  case round =>
    clear S0
    obtain ⟨a, f, dk, rfl, rfl, han, hf, hg, hz, S1, HO⟩ := hrel
    by_cases c : a + 20 ≤ n
    · have c' : decide ((a : Int) + 20 ≤ (n : Int)) = true := decide_eq_true (by omega)
      have e1 : (((a + 20 : Nat) : Int)) = (a : Int) + 20 := by omega
      have hw : IntKind.i64.wrap ((a : Int) + 20 + 20) = (a : Int) + 20 + 20 := by rw [IntKind.wrap_i64]; omega
      obtain ⟨f, rfl⟩ : ∃ q, f = q + 1 := ⟨f - 1, by omega⟩
      have h1 := HI.out a (a + 20) dk wr (by omega) c hz S1
      rw [e1] at h1
      have H1 := Aside0.mk h1
      have HX : Hid (blk (ltOf cf) n (f + 1) (a + 20) (Sort.insertionSort (ltOf cf) dk a (a + 20)) = blk (ltOf cf) n (n + 1) 0 d) := by
        show _ = _
        rw [← HO.out, blk, blk, if_pos c]
        rw [blk]
      have hz1 : (Sort.insertionSort (ltOf cf) dk a (a + 20)).size = n := by rw [insertion_size]; exact hz
      clear h1 S1 HO
      go_wp2_with fail
      with_reducible refine H1.out.mono ?_
      rintro e1 w1 ⟨rfl, S2⟩
      have T1 : Aside (SW enc w0 blk0 off (Sort.insertionSort (ltOf cf) dk a (a + 20)) w1) := S2
      clear S2
      go_wp2
      go_roundg (n - (a + 20))
      case measure => omega
      case rel => exact ⟨a + 20, f, _, by first | rfl | (congr 1; omega), by first | rfl | (congr 1; omega), by omega, by omega, by omega, hz1, T1, HX⟩
    · have c' : decide ((a : Int) + 20 ≤ (n : Int)) = false := decide_eq_false (by omega)
      have h1 := HI.out a n dk wr han (Nat.le_refl _) hz S1
      have H1 := Aside0.mk h1
      have HX : Hid (Sort.insertionSort (ltOf cf) dk a n = blk (ltOf cf) n (n + 1) 0 d) := by
        show _ = _
        rw [← HO.out, blk, if_neg c]
      have hz1 : (Sort.insertionSort (ltOf cf) dk a n).size = n := by rw [insertion_size]; exact hz
      clear h1 S1 HO
      go_wp2_with fail
      with_reducible refine H1.out.mono ?_
      rintro e1 w1 ⟨rfl, S2⟩
      have T1 : Aside (SW enc w0 blk0 off (Sort.insertionSort (ltOf cf) dk a n) w1) := S2
      clear S2 H1
      generalize Sort.insertionSort (ltOf cf) dk a n = d1 at T1 HX hz1
      clear hz c c' hf hg
      go_wp2
      go_loopg [6] n (fun g1 v6 wr => ∃ (z f : Nat) (dk : Array α), v6 = .int .i64 z ∧ 0 < z ∧ (z ≤ 20 ∨ z < 2 * n) ∧ n ≤ z + f ∧ n ≤ g1 + z ∧ dk.size = n ∧ Aside (SW enc w0 blk0 off dk wr) ∧ Hid (mrgs (ltOf cf) n f z dk = mrgs (ltOf cf) n n 20 d1))
      case atStart => exact ⟨20, n, d1, by first | rfl | go_num, by omega, .inl (Nat.le_refl _), by omega, by omega, hz1, T1, rfl⟩
      case round =>
        clear T1 hz1
        obtain ⟨z, f, dk, rfl, hz0, hzb, hf, hg, hz, S1, HO⟩ := hrel
        by_cases c : z < n
        · have c' : decide ((z : Int) < (n : Int)) = true := decide_eq_true (by omega)
          obtain ⟨f, rfl⟩ : ∃ q, f = q + 1 := ⟨f - 1, by omega⟩
          have hw1 : IntKind.i64.wrap (2 * (z : Int)) = 2 * (z : Int) := by rw [IntKind.wrap_i64]; omega
          have hw2 : IntKind.i64.wrap ((z : Int) * 2) = (z : Int) * 2 := by rw [IntKind.wrap_i64]; omega
          have HO2 : Hid (mrgs (ltOf cf) n f (z * 2) (mrg (ltOf cf) n z (n + 1) 0 dk) = mrgs (ltOf cf) n n 20 d1) := by
            show _ = _
            rw [← HO.out, mrgs, if_pos c]
          clear HO
          go_wp2
          go_loopg [7, 8] n (fun g1 v7 v8 wr => ∃ (a f : Nat) (de : Array α), v7 = .int .i64 a ∧ v8 = .int .i64 ((a : Int) + 2 * (z : Int)) ∧ a ≤ n ∧ n ≤ a + f ∧ n ≤ g1 + a ∧ de.size = n ∧ Aside (SW enc w0 blk0 off de wr) ∧ Hid (mrg (ltOf cf) n z (f + 1) a de = mrg (ltOf cf) n z (n + 1) 0 dk))
          case atStart => exact ⟨0, n, dk, by first | rfl | go_num, by first | rfl | go_num | (congr 1; omega), by omega, by omega, by omega, hz, S1, rfl⟩
          case round =>
            clear S1
            obtain ⟨a, f2, de, rfl, rfl, han, hf2, hg2, hze, S1, HP⟩ := hrel
            have hwa : IntKind.i64.wrap ((a : Int) + (z : Int)) = (a : Int) + (z : Int) := by rw [IntKind.wrap_i64]; omega
            have ez : ((a + z : Nat) : Int) = (a : Int) + (z : Int) := by omega
            by_cases c1 : a + 2 * z ≤ n
            · have c1' : decide ((a : Int) + 2 * (z : Int) ≤ (n : Int)) = true := decide_eq_true (by omega)
              have hwb : IntKind.i64.wrap ((a : Int) + 2 * (z : Int) + 2 * (z : Int)) = (a : Int) + 2 * (z : Int) + 2 * (z : Int) := by rw [IntKind.wrap_i64]; omega
              obtain ⟨f2, rfl⟩ : ∃ q, f2 = q + 1 := ⟨f2 - 1, by omega⟩
              have h1 := HY.out a (a + z) (a + 2 * z) de wr (by omega) (by omega) c1 hze S1
              rw [ez, show ((a + 2 * z : Nat) : Int) = (a : Int) + 2 * (z : Int) by omega] at h1
              have H1 := Aside0.mk h1
              have HX : Hid (mrg (ltOf cf) n z (f2 + 1) (a + 2 * z) (sym (ltOf cf) n a (a + z) (a + 2 * z) de) = mrg (ltOf cf) n z (n + 1) 0 dk) := by
                show _ = _
                rw [← HP.out]
                conv => rhs; rw [mrg, if_pos c1]
              have hz1 : (sym (ltOf cf) n a (a + z) (a + 2 * z) de).size = n := by rw [sym_size]; exact hze
              clear h1 S1 HP
              go_wp2_with fail
              with_reducible refine H1.out.mono ?_
              rintro e1 w1 ⟨rfl, S2⟩
              have T1 : Aside (SW enc w0 blk0 off (sym (ltOf cf) n a (a + z) (a + 2 * z) de) w1) := S2
              clear S2
              go_wp2
              go_roundg (n - (a + 2 * z))
              case measure => omega
              case rel => exact ⟨a + 2 * z, f2, _, by first | rfl | (congr 1; omega), by first | rfl | (congr 1; omega), by omega, by omega, by omega, hz1, T1, HX⟩
            · have c1' : decide ((a : Int) + 2 * (z : Int) ≤ (n : Int)) = false := decide_eq_false (by omega)
              by_cases c2 : a + z < n
              · have c2' : decide ((a : Int) + (z : Int) < (n : Int)) = true := decide_eq_true (by omega)
                have h1 := HY.out a (a + z) n de wr (by omega) (by omega) (Nat.le_refl _) hze S1
                rw [ez] at h1
                have H1 := Aside0.mk h1
                have HX : Hid (sym (ltOf cf) n a (a + z) n de = mrg (ltOf cf) n z (n + 1) 0 dk) := by
                  show _ = _
                  rw [← HP.out, mrg, if_neg c1, if_pos c2]
                have hz1 : (sym (ltOf cf) n a (a + z) n de).size = n := by rw [sym_size]; exact hze
                clear h1 S1 HP
                go_wp2_with fail
                with_reducible refine H1.out.mono ?_
                rintro e1 w1 ⟨rfl, S2⟩
                have T1 : Aside (SW enc w0 blk0 off (sym (ltOf cf) n a (a + z) n de) w1) := S2
                clear S2
                go_wp2
                go_roundg (n - z * 2)
                case measure => omega
                case rel => exact ⟨z * 2, f, _, by first | rfl | (congr 1; omega), by omega, by omega, by omega, by omega, hz1, T1, (by show _ = _; rw [HX.out]; exact HO2.out)⟩
              · have c2' : decide ((a : Int) + (z : Int) < (n : Int)) = false := decide_eq_false (by omega)
                have HX : Hid (de = mrg (ltOf cf) n z (n + 1) 0 dk) := by
                  show _ = _
                  rw [← HP.out, mrg, if_neg c1, if_neg c2]
                clear HP
                go_wp2
                go_roundg (n - z * 2)
                case measure => omega
                case rel => exact ⟨z * 2, f, _, by first | rfl | (congr 1; omega), by omega, by omega, by omega, by omega, hze, S1, (by show _ = _; rw [HX.out]; exact HO2.out)⟩
        · have c' : decide ((z : Int) < (n : Int)) = false := decide_eq_false (by omega)
          have HX2 : Hid (dk = mrgs (ltOf cf) n n 20 d1) := by
            show _ = _
            rw [← HO.out]
            cases f with
            | zero => rfl
            | succ f => rw [mrgs, if_neg c]
          clear HO
          go_wp2
          go_end0
          exact ⟨rfl, by unfold stable; rw [← HX.out, ← HX2.out]; exact S1.out⟩
end Go.Proofs.Ytefhljhpcpajgaa.F
set_option linter.unusedVariables false
namespace Go.Proofs.Ytefhljhpcpajgaa.Q
open Go.RowKit Go.Proofs.YtefhljhpcpajgaaW.PrintWords Go.Proofs.YtefhljhpcpajgaaW.PrintLast Go.Proofs.YtefhljhpcpajgaaW.PrintMore
theorem Ev.ite {α : Type} {c : Prop} [Decidable c] {a b : Nat → Option α} {r : α} (h1 : c → Ev a r) (h2 : ¬ c → Ev b r) : Ev (fun k => if c then a k else b k) r := by
  by_cases h : c
  · simp only [if_pos h]; exact h1 h
  · simp only [if_neg h]; exact h2 h
theorem Ev.pos {α : Type} {c : Prop} [Decidable c] {a b : Nat → Option α} {r : α} (h : c) (h1 : Ev a r) : Ev (fun k => if c then a k else b k) r := by
  simp only [if_pos h]; exact h1
theorem Ev.neg {α : Type} {c : Prop} [Decidable c] {a b : Nat → Option α} {r : α} (h : ¬ c) (h1 : Ev b r) : Ev (fun k => if c then a k else b k) r := by
  simp only [if_neg h]; exact h1
theorem Ev.ok {α : Type} {a b : α} (h : a = b) : Ev (fun _ => some a) b := ⟨0, fun _ _ => by rw [h]⟩
theorem Ev.const {α : Type} {o : Option α} {r : α} (h : o = some r) : Ev (fun _ => o) r := ⟨0, fun _ _ => h⟩
theorem Ev.bindc {α β : Type} {o : Option α} {f : Nat → α → Option β} {a : α} {r : β} (h : o = some a) (k : Ev (fun n => f n a) r) : Ev (fun n => o.bind (f n)) r := by
  subst h
  exact k
theorem Ev.eq {α : Type} {g : Nat → Option α} {a b : α} (h : Ev g a) (e : a = b) : Ev g b := e ▸ h
theorem wrap_eq {x : Int} (h0 : -9223372036854775808 ≤ x) (h1 : x ≤ 9223372036854775807) : wrap64 x = x := by
  unfold wrap64; omega
theorem u64_eq {x : Int} (h0 : 0 ≤ x) (h1 : x < 18446744073709551616) : IntKind.u64.wrap x = x := by
  simp [IntKind.wrap, IntKind.signed, IntKind.bits]; omega
theorem rd_nat {l : List Int} {i : Nat} (h : i < l.length) : rd l (i : Int) = l[i] := by
  unfold rd; simp [List.getD_eq_getElem?_getD, h]
theorem rdOf_nat {α : Type} {d : α} {l : List α} {i : Nat} (h : i < l.length) : rdOf d l (i : Int) = l[i] := by
  unfold rdOf; simp [List.getD_eq_getElem?_getD, h]
theorem drop_cons {α : Type} {l : List α} {i : Nat} (h : i < l.length) : l.drop i = l[i] :: l.drop (i + 1) := List.drop_eq_getElem_cons h
end Go.Proofs.Ytefhljhpcpajgaa.Q
set_option linter.unusedVariables false
namespace Go.Proofs.Ytefhljhpcpajgaa.Q
open Go.RowKit
def bef (r : Nat → Int) (j i : Nat) : Bool := decide (r j > r i) || (decide (r j = r i) && decide (j < i))
theorem bef_iff {r : Nat → Int} {j i : Nat} : bef r j i = true ↔ r j > r i ∨ (r j = r i ∧ j < i) := by simp [bef]
theorem bef_irrefl (r : Nat → Int) (i : Nat) : bef r i i = false := by simp [bef]
theorem bef_trans {r : Nat → Int} {a b c : Nat} (h : bef r a b = true) (g : bef r b c = true) : bef r a c = true := by
  rw [bef_iff] at *; omega
theorem bef_total (r : Nat → Int) {a b : Nat} (h : a ≠ b) : bef r a b = true ∨ bef r b a = true := by
  rw [bef_iff, bef_iff]; omega
theorem bef_asymm {r : Nat → Int} {a b : Nat} (h : bef r a b = true) : bef r b a = false := by
  cases e : bef r b a with
  | false => rfl
  | true => have := bef_trans h e; rw [bef_irrefl] at this; cases this
def rank (r : Nat → Int) (n i : Nat) : Nat := (List.range n).countP (fun j => bef r j i)
theorem countP_lt {α : Type} {p q : α → Bool} {l : List α} (h : ∀ x ∈ l, p x = true → q x = true) {a : α} (ha : a ∈ l) (hp : p a = false) (hq : q a = true) : l.countP p < l.countP q := by
  induction l with
  | nil => cases ha
  | cons x l ih =>
    have hl : l.countP p ≤ l.countP q := List.countP_mono_left (fun y hy => h y (List.mem_cons_of_mem _ hy))
    rcases List.mem_cons.1 ha with rfl | ha
    · rw [List.countP_cons_of_neg (by simp [hp]), List.countP_cons_of_pos hq]; omega
    · have := ih (fun y hy => h y (List.mem_cons_of_mem _ hy)) ha
      by_cases hx : p x = true
      · rw [List.countP_cons_of_pos hx, List.countP_cons_of_pos (h x List.mem_cons_self hx)]; omega
      · rw [List.countP_cons_of_neg hx]
        by_cases hx2 : q x = true
        · rw [List.countP_cons_of_pos hx2]; omega
        · rw [List.countP_cons_of_neg hx2]; omega
theorem rank_lt {r : Nat → Int} {n a b : Nat} (ha : a < n) (h : bef r a b = true) : rank r n a < rank r n b :=
  countP_lt (fun x _ hx => bef_trans hx h) (List.mem_range.2 ha) (bef_irrefl r a) h
theorem rank_inj {r : Nat → Int} {n a b : Nat} (ha : a < n) (hb : b < n) (h : rank r n a = rank r n b) : a = b := by
  apply Classical.byContradiction
  intro hne
  rcases bef_total r hne with g | g
  · have := rank_lt ha g; omega
  · have := rank_lt hb g; omega
theorem rank_bef {r : Nat → Int} {n a b : Nat} (ha : a < n) (hb : b < n) : rank r n a < rank r n b ↔ bef r a b = true := by
  constructor
  · intro h
    apply Classical.byContradiction
    intro hn
    by_cases e : a = b
    · subst e; omega
    · rcases bef_total r e with g | g
      · exact hn g
      · have := rank_lt hb g; omega
  · exact rank_lt ha
theorem rank_next {r : Nat → Int} {n t k : Nat} (hc : (List.range n).countP (fun i => decide (rank r n i < t)) = t) (hk : k < n) (hkt : t ≤ rank r n k) (hm : ∀ i, i < n → t ≤ rank r n i → i ≠ k → bef r k i = true) : rank r n k = t := by
  rw [← hc]
  unfold rank
  refine List.countP_congr fun j hj => ?_
  have hj := List.mem_range.1 hj
  rw [decide_eq_true_eq]
  change bef r j k = true ↔ rank r n j < t
  constructor
  · intro h
    apply Classical.byContradiction
    intro hn
    by_cases e : j = k
    · subst e; rw [bef_irrefl] at h; cases h
    · have := hm j hj (by omega) e
      rw [bef_asymm h] at this; cases this
  · intro h
    exact (rank_bef hj hk).1 (by omega)
theorem countP_succ {n t k : Nat} {f : Nat → Nat} (hf : ∀ a b, a < n → b < n → f a = f b → a = b) (hk : k < n) (hfk : f k = t) : (List.range n).countP (fun i => decide (f i < t + 1)) = (List.range n).countP (fun i => decide (f i < t)) + 1 := by
  have key : ∀ m, m ≤ n → (List.range m).countP (fun i => decide (f i < t + 1)) = (List.range m).countP (fun i => decide (f i < t)) + (if k < m then 1 else 0) := by
    intro m
    induction m with
    | zero => intro _; simp
    | succ m ih =>
      intro hm
      have ih := ih (by omega)
      rw [List.range_succ, List.countP_append, List.countP_append, ih]
      simp only [List.countP_cons, List.countP_nil]
      by_cases e : m = k
      · subst e
        rw [hfk]
        simp
      · have h1 : f m ≠ t := fun h => e (hf m k (by omega) hk (by omega))
        have h2 : (f m < t + 1) ↔ (f m < t) := by omega
        simp only [h2]
        (repeat' split) <;> omega
  rw [key n (Nat.le_refl _), if_pos hk]
theorem exists_first (r : Nat → Int) (p : Nat → Prop) [DecidablePred p] : ∀ n, (∃ i, i < n ∧ p i) → ∃ k, k < n ∧ p k ∧ ∀ i, i < n → p i → i ≠ k → bef r k i = true := by
  intro n
  induction n with
  | zero => rintro ⟨i, h, _⟩; omega
  | succ n ih =>
    rintro ⟨i, hi, hp⟩
    by_cases he : ∃ i, i < n ∧ p i
    · obtain ⟨k, hk, hpk, hm⟩ := ih he
      by_cases hn : p n ∧ bef r n k = true
      · refine ⟨n, by omega, hn.1, fun j hj hpj hne => ?_⟩
        by_cases e : j = k
        · subst e; exact hn.2
        · exact bef_trans hn.2 (hm j (by omega) hpj e)
      · refine ⟨k, by omega, hpk, fun j hj hpj hne => ?_⟩
        by_cases e : j = n
        · subst e
          rcases bef_total r hne with g | g
          · exact absurd ⟨hpj, g⟩ hn
          · exact g
        · exact hm j (by omega) hpj hne
    · have : i = n := by
        apply Classical.byContradiction
        intro h
        exact he ⟨i, by omega, hp⟩
      subst this
      refine ⟨i, hi, hp, fun j hj hpj hne => absurd ⟨j, by omega, hpj⟩ he⟩
theorem rank_count (r : Nat → Int) (n : Nat) : ∀ t, t ≤ n → (List.range n).countP (fun i => decide (rank r n i < t)) = t := by
  intro t
  induction t with
  | zero => intro _; simp
  | succ t ih =>
    intro ht
    have hc := ih (by omega)
    have hex : ∃ i, i < n ∧ t ≤ rank r n i := by
      apply Classical.byContradiction
      intro hn
      have : (List.range n).countP (fun i => decide (rank r n i < t)) = (List.range n).length := by
        rw [List.countP_eq_length]
        intro x hx
        have hx := List.mem_range.1 hx
        rw [decide_eq_true_eq]
        apply Classical.byContradiction
        intro h
        exact hn ⟨x, hx, by omega⟩
      rw [hc, List.length_range] at this
      omega
    obtain ⟨k, hk, hkt, hm⟩ := exists_first r (fun i => t ≤ rank r n i) n hex
    have e := rank_next hc hk hkt hm
    rw [countP_succ (fun a b ha hb => rank_inj ha hb) hk e, hc]
theorem rank_sorted {r : Nat → Int} {n : Nat} {l : List Nat} (hp : l.Perm (List.range n)) (hs : l.Pairwise (fun a b => bef r a b = true)) {p : Nat} (h : p < l.length) : rank r n l[p] = p := by
  have hl : l.length = n := by rw [hp.length_eq, List.length_range]
  have e : rank r n l[p] = l.countP (fun j => bef r j l[p]) := (hp.countP_eq _).symm
  rw [e]
  have hsplit : l = l.take p ++ l.drop p := (List.take_append_drop p l).symm
  have h1 : (l.take p).countP (fun j => bef r j l[p]) = (l.take p).length := by
    rw [List.countP_eq_length]
    intro x hx
    obtain ⟨j, hj, rfl⟩ := List.mem_iff_getElem.1 hx
    rw [List.length_take] at hj
    rw [List.getElem_take]
    exact List.pairwise_iff_getElem.1 hs j p (by omega) h (by omega)
  have h2 : (l.drop p).countP (fun j => bef r j l[p]) = 0 := by
    rw [List.countP_eq_zero]
    intro x hx
    obtain ⟨j, hj, rfl⟩ := List.mem_iff_getElem.1 hx
    rw [List.length_drop] at hj
    rw [List.getElem_drop]
    rcases Nat.eq_zero_or_pos j with h0 | h0
    · subst h0; simp [bef_irrefl]
    · rw [bef_asymm (List.pairwise_iff_getElem.1 hs p (p + j) h (by omega) (by omega))]
      decide
  have h3 : l.countP (fun j => bef r j l[p]) = (l.take p ++ l.drop p).countP (fun j => bef r j l[p]) := by rw [List.take_append_drop]
  rw [h3, List.countP_append, h1, h2, List.length_take]
  omega
end Go.Proofs.Ytefhljhpcpajgaa.Q
set_option linter.unusedVariables false
namespace Go.Proofs.Ytefhljhpcpajgaa.F
open Go.Sort Go.Shelf Go.Lib
open Go.RowKit Go.Proofs.YtefhljhpcpajgaaX Go.Proofs.YtefhljhpcpajgaaW.PrintWords Go.Proofs.YtefhljhpcpajgaaW.PrintLast Go.Proofs.YtefhljhpcpajgaaW.PrintMore
open Go.Proofs.Ytefhljhpcpajgaa.Stable
theorem sym_calls {α : Type} [Inhabited α] (enc : α → Value) (cf : α → α → Int) (g : Nat) (cb : Array Value) (blk off cap : Nat) (d0 : Array α) (w0 : World) (eg : ∀ args w, (callFunc g args).run Try.prog w = .ok (.enter g args) w) (hcmp : CmpLays1 Try.prog g cb enc cf blk off d0.size w0) (R : Row1 enc w0 blk off d0) (hsz : d0.size < 4611686018427387904) :
    ∀ (f a m b : Nat) (d : Array α) (w : World), b - a ≤ f → a < m → m < b → b ≤ d.size → d0.size = d.size → SW enc w0 blk off d w → Calls Try.prog 156 #[.slice (some ⟨blk, off, none⟩) d.size cap, .int .i64 a, .int .i64 m, .int .i64 b, .func (.func g) #[] cb] w fun e w' => e = .returned (.tuple #[]) ∧ SW enc w0 blk off (sym (ltOf cf) f a m b d) w'
  | 0, a, m, b, d, w, h0, h1, h2, _, _, _ => by omega
  | f + 1, a, m, b, d, w, h0, h1, h2, hb, hs, S => by
    by_cases e1 : m - a = 1
    · have := sym_up enc cf g cb blk off cap a m b d0 d w0 w eg hcmp R hs S h1 (by omega) h2 hb (by omega)
      rw [sym, if_pos e1]
      exact this
    · by_cases e2 : b - m = 1
      · have := sym_down enc cf g cb blk off cap a m b d0 d w0 w eg hcmp R hs S h1 (by omega) h2 (by omega) hb (by omega)
        rw [sym, if_neg e1, if_pos e2]
        exact this
      · have ih := sym_calls enc cf g cb blk off cap d0 w0 eg hcmp R hsz f
        by_cases c : (a + b) / 2 < m
        · exact sym_midA enc cf g cb blk off cap a m b ((a + b) / 2) f d0 d w0 w eg hcmp R hs S (by omega) (by omega) rfl c hb (by omega) (fun a m b d w h1 h2 h0 hb hs S => ih a m b d w h0 h1 h2 hb hs S) h0
        · exact sym_midB enc cf g cb blk off cap a m b ((a + b) / 2) f d0 d w0 w eg hcmp R hs S (by omega) (by omega) rfl (by omega) hb (by omega) (fun a m b d w h1 h2 h0 hb hs S => ih a m b d w h0 h1 h2 hb hs S) h0
set_option maxHeartbeats 8000000 in
set_option maxRecDepth 100000 in
theorem sort_stable {α : Type} [Inhabited α] (enc : α → Value) (cf : α → α → Int) (g : Nat) (cb : Array Value) (blk off cap : Nat) (d : Array α) (w0 w : World) (eg : ∀ args w, (callFunc g args).run Try.prog w = .ok (.enter g args) w) (hcmp : CmpLays1 Try.prog g cb enc cf blk off d.size w0) (R : Row1 enc w0 blk off d) (S : SW enc w0 blk off d w) (hsz : d.size < 1152921504606846976) :
    Calls Try.prog 138 #[.slice (some ⟨blk, off, none⟩) d.size cap, .func (.func g) #[] cb] w fun e w' => e = .returned (.tuple #[]) ∧ SW enc w0 blk off (stable (ltOf cf) d.size d) w' := by
  have hC := fun (wr : World) (S : SW enc w0 blk off d wr) => stable_calls enc cf g cb blk off cap d w0 wr eg hcmp R S hsz (fun f a m b dk w h0 h1 h2 hb hs S => sym_calls enc cf g cb blk off cap d w0 eg hcmp R (by omega) f a m b dk w h0 h1 h2 hb hs S)
  have HC := Aside0.mk hC
  have S1 : Aside (SW enc w0 blk off d w) := S
  clear hC hcmp S
  go_enter Try.func138, Try.ntmps138
  go_wp2_with fail
  refine (HC.out _ S1.out).mono ?_
  rintro e w' ⟨rfl, S2⟩
  have S3 : Aside (SW enc w0 blk off (stable (ltOf cf) d.size d) w') := S2
  clear S2
  go_wp2
  go_end0
  exact ⟨rfl, S3.out⟩
def byArr (l : List Int) : Array Nat := stable (ltK (keyOf l)) l.length (Array.range l.length)
def byPins (l : List Int) : List Int := (byArr l).toList.map fun i => ((pinN l.length i : Nat) : Int)
theorem byArr_size (l : List Int) : (byArr l).size = l.length := by unfold byArr stable; rw [mrgs_size, blk_size, Array.size_range]
def upTo (n i : Nat) : List Int := (List.range n).map fun j => if j < i then (j : Int) else 0
theorem upTo_zero (n : Nat) : upTo n 0 = List.replicate n 0 := by
  unfold upTo
  apply List.ext_getElem
  · simp
  · intro k h1 h2; simp
theorem upTo_set (n i : Nat) (h : i < n) : (upTo n i).set i (i : Int) = upTo n (i + 1) := by
  unfold upTo
  apply List.ext_getElem
  · simp
  · intro k h1 h2
    rw [List.getElem_set]
    simp only [List.getElem_map, List.getElem_range]
    by_cases e : i = k
    · subst e; rw [if_pos rfl, if_pos (by omega)]
    · rw [if_neg e]
      by_cases c : k < i
      · rw [if_pos c, if_pos (by omega)]
      · rw [if_neg c, if_neg (by omega)]
theorem upTo_len (n i : Nat) : (upTo n i).length = n := by unfold upTo; simp
theorem putRow_pin (l : List Int) (w : World) (g : Nat) (d : Array Nat) : putRow (encP l.length) w g 0 d = putRow (Value.int .i64) w g 0 (d.toList.map fun i => ((pinN l.length i : Nat) : Int)).toArray := by
  have e : putCells (encP l.length) 0 d = putCells (Value.int .i64) 0 (d.toList.map fun i => ((pinN l.length i : Nat) : Int)).toArray := by
    funext cur
    unfold putCells
    congr 1
    funext k x
    have hz : (d.toList.map fun i => ((pinN l.length i : Nat) : Int)).toArray.size = d.size := by simp
    rw [hz]
    by_cases c : 0 ≤ k ∧ k < 0 + d.size
    · rw [if_pos c, if_pos c]
      have h1 : k - 0 < d.size := by omega
      rw [getElem!_pos d (k - 0) h1, getElem!_pos _ (k - 0) (by rw [hz]; exact h1)]
      simp [encP]
    · rw [if_neg c, if_neg c]
  unfold putRow
  rw [e]
theorem holds_pin {w : World} {g : Nat} {cur : Array Value} {e : TypeId} (l : List Int) (hb : w.heap[g]? = some (.cells cur e (0, 0))) (ht : cur.toList.take l.length = (upTo l.length l.length).map (Value.int .i64)) : Holds (encP l.length) w g 0 (Array.range l.length) := by
  have h := holds_of_blockI (ss := upTo l.length l.length) hb (by rw [upTo_len]; exact ht)
  intro j hj
  have hj' : j < l.length := by simpa using hj
  have := h j (by simpa [upTo_len] using hj')
  refine ⟨?_, this.2⟩
  rw [this.1, getElem!_pos _ j (by simpa [upTo_len] using hj'), getElem!_pos _ j hj]
  simp [upTo, encP, pin_of hj', hj']
theorem byPins_len (l : List Int) : (byPins l).length = l.length := by
  unfold byPins; rw [List.length_map, Array.length_toList, byArr_size]
open Go.Proofs.Ytefhljhpcpajgaa.Q in
def byList (l : List Int) : List Int := (List.range l.length).map fun p => ((((List.range l.length).find? fun i => rank (fun j => l.getD j 0) l.length i == p).getD 0 : Nat) : Int)
open Go.Proofs.Ytefhljhpcpajgaa.Q in
theorem byPins_is (l : List Int) : byPins l = byList l := by
  have hr0 : (Array.range l.length).toList = List.range l.length := by simp
  have sp := stable_spec (fun x => x) (keyOf l) l.length (Array.range l.length) (by simp) (fun i hi => by rw [getElem!_pos _ i (by simpa using hi)]; simp)
  have hz : (byArr l).size = l.length := byArr_size l
  have hL : ∃ L, L = (byArr l).toList := ⟨_, rfl⟩
  obtain ⟨L, hL⟩ := hL
  have hp : L.Perm (List.range l.length) := by
    have := sp.1.2.2
    rw [show ((Array.range l.length).extract 0 l.length) = Array.range l.length by simp, hr0] at this
    rw [hL]
    refine List.Perm.trans ?_ this
    rw [show (stable (ltK (keyOf l)) l.length (Array.range l.length)).extract 0 l.length = byArr l by
      show (byArr l).extract 0 l.length = byArr l
      rw [← hz]; simp]
  have hll : L.length = l.length := by rw [hL, Array.length_toList, hz]
  have hs : L.Pairwise (fun a b => bef (keyOf l) a b = true) := by
    rw [List.pairwise_iff_getElem]
    intro i j hi hj hij
    have := sp.2 i j (Nat.zero_le _) hij (by omega)
    have e : ∀ q (hq : q < L.length), L[q] = (stable (ltK (keyOf l)) l.length (Array.range l.length))[q]! := fun q hq => by
      subst hL
      rw [getElem!_pos _ q (show q < (byArr l).size by simpa using hq)]
      rw [Array.getElem_toList]
      rfl
    rw [e i hi, e j hj, bef_iff]
    unfold RK at this
    omega
  have hk : ∀ i, rank (keyOf l) l.length i = rank (keyOf l) l.length i := fun _ => rfl
  have hrk : ∀ i, i < l.length → rank (keyOf l) l.length i = rank (fun j => l.getD j 0) l.length i := fun i hi => by
    unfold rank
    refine List.countP_congr fun j hj => ?_
    have hj := List.mem_range.1 hj
    rw [bef_iff, bef_iff]
    unfold keyOf
    rw [pin_of hi, pin_of hj]
  unfold byPins byList
  rw [← hL]
  apply List.ext_getElem
  · simp [hll]
  · intro p h1 h2
    have hpl : p < L.length := by simpa using h1
    simp only [List.getElem_map, List.getElem_range]
    have hm : L[p] < l.length := List.mem_range.1 (hp.mem_iff.1 (List.getElem_mem hpl))
    have hrp := rank_sorted hp hs hpl
    rw [pin_of hm]
    rw [hrk _ hm] at hrp
    congr 1
    cases hf : (List.range l.length).find? (fun i => rank (fun j => l.getD j 0) l.length i == p) with
    | none =>
      exact absurd (show (rank (fun j => l.getD j 0) l.length L[p] == p) = true by rw [hrp]; exact beq_self_eq_true p) (List.find?_eq_none.1 hf L[p] (List.mem_range.2 hm))
    | some i =>
      have hi1 := List.find?_some hf
      have hi2 := List.mem_range.1 (List.mem_of_find?_eq_some hf)
      have hi3 : rank (fun j => l.getD j 0) l.length i = p := by simpa using hi1
      exact (rank_inj hi2 hm (hi3.trans hrp.symm)).symm
def byF (a0 : Int) (l1_0_0 : List Int) : Option (List Int) := if a0 = (l1_0_0.length : Int) ∧ 0 < l1_0_0.length ∧ l1_0_0.length < 35184372088832 then some (byList l1_0_0) else none
set_option maxHeartbeats 8000000 in
set_option maxRecDepth 100000 in
theorem by_calls (a0 : Int) (g1_0 : Nat) (A1_0_0 : Option Addr) (c1_0_0 : Nat) (l1_0_0 : List Int) (r : List Int) (w : World) (hk1_0 : w.heap[g1_0]? = some (.cells #[.slice A1_0_0 l1_0_0.length c1_0_0] 22 (0, 0))) (hr1_0_0 : Kd.C (Kd.int .i64) w A1_0_0 l1_0_0.length l1_0_0) (hc1_0_0 : l1_0_0.length ≤ c1_0_0) (h : byF a0 l1_0_0 = some r) :
    Calls Try.prog 108 #[.int .i64 a0, .func (.func 109) #[] #[.pointer (some ⟨g1_0, 0, none⟩)]] w fun e w' => ∃ v0_ : Value, e = .returned (v0_) ∧ Kd.R (Kd.int .i64) 3 w' w.heap.size (fun _ => True) v0_ r ∧ Below w.heap.size w w' := by
  unfold byF at h
  by_cases hg : a0 = (l1_0_0.length : Int) ∧ 0 < l1_0_0.length ∧ l1_0_0.length < 35184372088832
  case neg => rw [if_neg hg] at h; cases h
  rw [if_pos hg] at h
  obtain ⟨rfl, hp, hm⟩ := hg
  have hrr := (Option.some.inj h).symm
  have HRR := Aside0.mk hrr
  obtain ⟨n, hn⟩ : ∃ q, q = l1_0_0.length := ⟨_, rfl⟩
  have hp0 : (0 : Int) ≤ (l1_0_0.length : Int) := by omega
  have hp1 : ((l1_0_0.length : Int)).toNat * 8 ≤ 281474976710656 := by omega
  have HK := Aside0.mk hk1_0
  have HR := Aside0.mk hr1_0_0
  have HP := Aside0.mk hp
  have HM := Aside0.mk hm
  have HB0 := Aside0.mk (Below.refl w.heap.size w)
  obtain ⟨WB, hWB⟩ : ∃ x, x = (w.alloc (.cells #[(.func (.func 109) #[] #[.pointer (some ⟨g1_0, 0, none⟩)] : Value)] 131)) := ⟨_, rfl⟩
  have HX := Aside0.mk hWB
  have HY : Aside0 (WB.cell? ⟨w.heap.size, 0, none⟩ = some (.func (.func 109) #[] #[.pointer (some ⟨g1_0, 0, none⟩)] : Value) ∧ Below w.heap.size w WB ∧ WB.heap.size = w.heap.size + 1) := ⟨by rw [hWB]; exact ⟨by simp, below_alloc (Below.refl _ _) _, by simp⟩⟩
  have HN := Aside0.mk hn
  clear h hrr hk1_0 hr1_0_0 hc1_0_0 hp hm hWB
  rw [← hn]
  rw [← hn] at hp0 hp1
  have HL : Aside0 ((List.replicate ((n : Int)).toNat 0 : List Int) = upTo n 0) := ⟨by rw [upTo_zero, Int.toNat_natCast]⟩
  clear hn
  go_enter Try.func108, Try.ntmps108
  go_wp2_with (first | ((with_reducible refine gate_dst (N := 8) rfl ?_); refine Kd.R_make (Kd.int .i64) (w0 := (w.alloc (.cells #[(.func (.func 109) #[] #[.pointer (some ⟨g1_0, 0, none⟩)] : Value)] 131))) ((w.alloc (.cells #[(.func (.func 109) #[] #[.pointer (some ⟨g1_0, 0, none⟩)] : Value)] 131))).heap.size 3 rfl (N := 8) rfl 22 _ _ rfl (n : Int) rfl rfl Try.underlying22 (.int .i64 0) 8 info3 rfl (by decide) (by omega) 0 (ok := fun _ => True) (okp := fun _ => True) rfl (fun _ hk => hk) trivial hp0 hp1 (Below.refl _ _) (Nat.le_refl _) ?_; intro v102 w4 ho5 hb hg_ hnew_; clear hg_ hnew_; rw [← HX.out] at hb ho5; rw [HL.out] at ho5; have HO := Aside0.mk ho5; have HB := Aside0.mk hb; clear ho5 hb; obtain ⟨Ao6, co6, eo6⟩ := Kd.R_slice HO.out; rw [upTo_len] at eo6; subst eo6))
  go_loopg [11] n (fun g1 v11 w' => ∃ (i : Nat), v11 = .int .i64 i ∧ i ≤ n ∧ n ≤ g1 + i ∧ Aside0 (Kd.R (Kd.int .i64) 3 w' WB.heap.size (fun _ => True) (.slice Ao6 n co6) (upTo n i)) ∧ Aside0 (Below WB.heap.size WB w'))
  case atStart => exact ⟨0, by first | rfl | go_num, by omega, by omega, ⟨by (with_reducible repeat (first | apply Kd.R_alloc | apply Kd.R_drewN | apply Kd.R_drew)); exact HO.out⟩, ⟨by repeat (first | (with_reducible first | exact HB.out | apply below_alloc | apply pw_below_drewN | apply below_drew1) | exact HB.out)⟩⟩
  case round =>
    clear HO HB HL hp0 hp1
    obtain ⟨i, rfl, hin, hg1, HO, HB⟩ := hrel
    by_cases hlt : i < n
    · have hltz : decide ((i : Int) < (n : Int)) = true := decide_eq_true (by omega)
      have hwr : IntKind.i64.wrap ((i : Int) + 1) = (i : Int) + 1 := by have := HM.out; have := HN.out; rw [IntKind.wrap_i64]; omega
      have p10 : 0 ≤ (i : Int) := by omega
      have q10 : (i : Int) < ((upTo n i).length : Int) := by rw [upTo_len]; omega
      have HO1 : Kd.R (Kd.int .i64) 3 wr WB.heap.size (fun _ => True) (.slice Ao6 (upTo n i).length co6) (upTo n i) := by rw [upTo_len]; exact HO.out
      obtain ⟨go10, co10, eo10, gb10, gl10, cl10, HG10⟩ := Kd.R_form HO1 (by rw [upTo_len]; omega)
      (first | cases eo10 | (injection eo10 with ea_ en_ ec_; (first | subst ea_ | (injection ea_ with ea_; subst ea_)); subst ec_; clear en_))
      have GB10 := Aside0.mk gb10
      clear gb10 gl10 HG10
      obtain ⟨hx10_0, hf10_0⟩ := Kd.R_celln 0 HO1 (i : Int) p10 q10
      rw [upTo_len] at q10
      replace p10 := eq_true p10
      replace q10 := eq_true q10
      have HP11 := Kd.R_putg HO1 (i : Int) (i : Int)
      have HQ : Aside0 ((upTo n i).set ((i : Int)).toNat (i : Int) = upTo n (i + 1)) := ⟨by rw [Int.toNat_natCast]; exact upTo_set n i hlt⟩
      rw [HQ.out, upTo_len] at HP11
      simp only [Int.toNat_natCast] at HP11 hx10_0 hf10_0
      clear HO1
      go_wp2_with (first | ((with_reducible refine gate_store (t := 3) (p := 17) rfl ?_); refine store_event (t := 3) (p := 17) (v := ?vo_w12) (w1 := (wr.setCell ⟨go10, i, none⟩ (.int .i64 (i : Int)))) ?hg ?ho ?hn ?hr ?_; (case ho => rfl); (case hg => rfl); (case hn => rfl); (case hr => first | (go_simp; done) | (go_simp; rfl)); intro w12 hw; have hg : wr.grownBy w12 (some go10) := (by rw [hw]; exact HP11.2); have hp_ : Kd.R (Kd.int .i64) 3 w12 WB.heap.size (fun _ => True) (.slice (some ⟨go10, 0, none⟩) n co6) (upTo n (i + 1)) := (by rw [hw]; exact HP11.1); clear HP11; have n0_ := Aside0.mk (hp_); have n1_ := Aside0.mk ((by rw [hw]; exact below_set (HB.out) GB10.out : Below WB.heap.size WB w12)); clear HO; clear HB; have HO := n0_; have HB := n1_; clear n0_ n1_; clear hg hw hp_))
      go_roundg (n - (i + 1))
      case measure => omega
      case rel => exact ⟨i + 1, by first | rfl | (congr 1; omega), by omega, by omega, ⟨by (with_reducible repeat (first | apply Kd.R_alloc | apply Kd.R_drewN | apply Kd.R_drew)); exact HO.out⟩, ⟨by repeat (first | (with_reducible first | exact HB.out | apply below_alloc | apply pw_below_drewN | apply below_drew1) | exact HB.out)⟩⟩
    · have hltz : decide ((i : Int) < (n : Int)) = false := decide_eq_false (by omega)
      obtain rfl : i = n := by omega
      have hN := HN.out
      have hl0 := HP.out
      have hlm := HM.out
      have ho := Kd.own_of_R HO.out
      obtain ⟨gb, cap, cur, hv, hbase, hheap, h1, h2, h3, h4⟩ : ∃ gb cap cur, Value.slice Ao6 i co6 = .slice (some ⟨gb, 0, none⟩) (upTo i i).length cap ∧ WB.heap.size ≤ gb ∧ wr.heap[gb]? = some (.cells cur 3 (0, 0)) ∧ (upTo i i).length ≤ cap ∧ cap ≤ maxLen ∧ cur.size = cap * 1 ∧ cur.toList.take ((upTo i i).length * 1) = encs (Value.int .i64) (upTo i i) := by
        rcases ho.2 with ⟨_, hz⟩ | h
        · rw [upTo_len] at hz; omega
        · exact h
      rw [upTo_len] at hv h1 h4
      injection hv with ea_ en_ ec_
      subst ea_ ec_
      have eN : i = l1_0_0.length := hN
      have hh := holds_pin l1_0_0 hheap (by rw [← eN]; rw [Nat.mul_one] at h4; exact h4)
      rw [← eN] at hh
      have hy := HY.out
      have hbw : Below w.heap.size w wr := hy.2.1.trans ⟨HB.out.os, HB.out.tape, HB.out.output, HB.out.size, fun k hk => HB.out.block k (by omega)⟩
      have hgs : gb < wr.heap.size := (Array.getElem?_eq_some_iff.1 hheap).1
      have hcm := share_cmp.lays w.heap.size g1_0 A1_0_0 c1_0_0 l1_0_0 hl0 gb 0 (Array.range i).size w wr (by rw [blk_cell HK.out 0]; rfl) HR.out hbw (by omega) (by omega) (by omega) ((HB.out.cell (p := ⟨w.heap.size, 0, none⟩) (by show w.heap.size < _; omega)).trans hy.1)
      rw [← eN] at hcm
      have hst := sort_stable (encP i) (cfP l1_0_0) 139 #[.pointer (some ⟨w.heap.size, 0, none⟩)] gb 0 co6 (Array.range i) wr wr (enters_of Try.func139 (by kernel_rfl) rfl) hcm ⟨fun _ => rfl, hh, hgs⟩ (SW.start hh) (by rw [Array.size_range]; omega)
      rw [cfP_lt] at hst
      simp only [Array.size_range] at hst
      have HS := Aside0.mk hst
      have hmf : ∀ (fn : Fn) (first cap : Array Value) (w : World), (Instr.makeFunc fn first cap).run Try.prog w = .ok (.func fn first cap) w := fun _ _ _ _ => rfl
      have HF := Aside0.mk (And.intro hbw (And.intro hbase (And.intro hheap (And.intro h1 (And.intro h2 (And.intro h3 (And.intro hgs eN)))))))
      clear hst hcm hh hbw hgs hbase hheap h1 h2 h3 h4 ho hy hN hl0 hlm eN HO HB
      go_wp2_with fail
      refine HS.out.mono ?_
      rintro e1 w1 ⟨rfl, hsw⟩
      have HW : Aside (SW (encP i) wr gb 0 (stable (ltK (keyOf l1_0_0)) i (Array.range i)) w1) := hsw
      clear hsw HS
      go_wp2
      go_ret
      obtain ⟨hbw, hbase, hheap, h1, h2, h3, hgs, eN⟩ := HF.out
      have hy := HY.out.2.2
      obtain ⟨m, os, hw1⟩ := HW.out
      have eA : stable (ltK (keyOf l1_0_0)) i (Array.range i) = byArr l1_0_0 := by unfold byArr; rw [← eN]
      rw [eA] at hw1
      have eP : w1 = grow (putRow (Value.int .i64) (Sort.ahead wr m) gb 0 (byPins l1_0_0).toArray) os := by
        rw [hw1]
        unfold sortWorld
        rw [eN, putRow_pin]
        rfl
      refine ⟨_, rfl, ?_, ?_⟩
      · rw [HRR.out, ← byPins_is, eP]
        have := ownsRow_sortedI (w := wr) (base := w.heap.size) (n := m) (os := os) (ss := upTo i i) (ts := byPins l1_0_0) (by rw [byPins_len, upTo_len, eN]) (by omega) hheap (by rw [upTo_len]; exact h1) h2 h3
        rw [upTo_len] at this
        refine Kd.R_of_own ?_ (fun _ _ => trivial)
        rw [byPins_len, ← eN]
        exact this
      · rw [hw1]
        exact sorted_below (encP i) hbw (by omega) hbw.size
end Go.Proofs.Ytefhljhpcpajgaa.F
namespace Go.Proofs.Ytefhljhpcpajgaa.F
open Go.RowKit Go.Proofs.YtefhljhpcpajgaaX Go.Proofs.YtefhljhpcpajgaaW.PrintWords Go.Proofs.YtefhljhpcpajgaaW.PrintLast Go.Proofs.YtefhljhpcpajgaaW.PrintMore
attribute [local go_sem] max2_int min2_int max_two min_two max_three min_three max_four min_four   
attribute [local go_sem high] str_geq str_leq str_gtr
set_option linter.unusedVariables false
set_option linter.unusedSimpArgs false
def share_by_share_Out_1_v22.f (a0 : Int) (l1_0_0 : List Int) : Option (List Int) := if a0 = (l1_0_0.length : Int) ∧ 0 < l1_0_0.length ∧ l1_0_0.length < 35184372088832 then some (byList l1_0_0) else none
theorem share_by_share_Out_1_v22.calls (a0 : Int) (g1_0 : Nat) (A1_0_0 : Option Addr) (c1_0_0 : Nat) (l1_0_0 : List Int) (r : List Int) (w : World) (hk1_0 : w.heap[g1_0]? = some (.cells #[.slice A1_0_0 l1_0_0.length c1_0_0] 22 (0, 0))) (hr1_0_0 : Kd.C (Kd.int .i64) w A1_0_0 l1_0_0.length l1_0_0) (hc1_0_0 : l1_0_0.length ≤ c1_0_0) (h : share_by_share_Out_1_v22.f a0 l1_0_0 = some r) :
    Calls Try.prog 108 #[.int .i64 a0, .func (.func 109) #[] #[.pointer (some ⟨g1_0, 0, none⟩)]] w fun e w' => ∃ v0_ : Value, e = .returned (v0_) ∧ Kd.R (Kd.int .i64) 3 w' w.heap.size (fun _ => True) v0_ r ∧ Below w.heap.size w w' :=
  by_calls a0 g1_0 A1_0_0 c1_0_0 l1_0_0 r w hk1_0 hr1_0_0 hc1_0_0 h
end Go.Proofs.Ytefhljhpcpajgaa.F
namespace Go.Proofs.Ytefhljhpcpajgaa.F
open Go.RowKit Go.Proofs.YtefhljhpcpajgaaX Go.Proofs.YtefhljhpcpajgaaW.PrintWords Go.Proofs.YtefhljhpcpajgaaW.PrintLast Go.Proofs.YtefhljhpcpajgaaW.PrintMore
attribute [local go_sem] max2_int min2_int max_two min_two max_three min_three max_four min_four   
attribute [local go_sem high] str_geq str_leq str_gtr
set_option linter.unusedVariables false
set_option linter.unusedSimpArgs false
theorem own_len {A : Option Addr} {n m c d k : Nat} (h : some k ≠ (Value.slice A n c).ownBlock) : some k ≠ (Value.slice A m d).ownBlock := by cases A <;> exact h
def share_Out.l0 : Nat → List Int → List Int → Int → Int → Option (List Int × Int)
  | 0, _, _, _, _ => none
  | k + 1, x8, x51, x52, x53 => if x53 < x52 then (if 0 ≤ x53 then (if x53 < (x51.length : Int) then (if 0 ≤ (rd x51 x53) then (if (rd x51 x53) < (x8.length : Int) then (share_Out.l0 k (x8.set ((rd x51 x53) : Int).toNat (wrap64 ((rd x8 (rd x51 x53)) + 1))) x51 x52 (wrap64 (x53 + 1))) else (none)) else (none)) else (none)) else (none)) else (some (x8, 0))
def share_Out.f (k : Nat) (a0 : Int) (l1 : List Int) : Option (List Int × Int) := (share_Whole.f k l1).bind fun bt101 => (if bt101.2 = 0 then (if a0 < 0 then (some (([] : List Int), 8)) else ((cents_In.f a0).bind fun t103 => (if t103 = true then ((slices_Max_int_int.f k l1).bind fun t104 => (if t104 = 0 then ((share_even.f k (l1.length : Int)).bind fun t105 => ((share_parts.f k a0 bt101.1 t105).bind fun bt108 => (if bt108.2.2.2 = 0 then ((share_by_share_Out_1_v22.f (bt108.1.length : Int) bt108.2.1).bind fun t117 => (if 0 ≤ bt108.2.2.1 then (if bt108.2.2.1 ≤ (t117.length : Int) then ((some (t117.take (bt108.2.2.1 : Int).toNat : List Int)).bind fun y120 => (share_Out.l0 k bt108.1 y120 (y120.length : Int) 0)) else (none)) else (none))) else (some (([] : List Int), bt108.2.2.2))))) else ((share_parts.f k a0 bt101.1 l1).bind fun bt126 => (if bt126.2.2.2 = 0 then ((share_by_share_Out_1_v22.f (bt126.1.length : Int) bt126.2.1).bind fun t135 => (if 0 ≤ bt126.2.2.1 then (if bt126.2.2.1 ≤ (t135.length : Int) then ((some (t135.take (bt126.2.2.1 : Int).toNat : List Int)).bind fun y138 => (share_Out.l0 k bt126.1 y138 (y138.length : Int) 0)) else (none)) else (none))) else (some (([] : List Int), bt126.2.2.2)))))) else (some (([] : List Int), 8))))) else (some (([] : List Int), bt101.2)))
theorem share_Out.mono_l : ∀ k, (∀ y0 y1 y2 y3, LeO (share_Out.l0 k y0 y1 y2 y3) (share_Out.l0 (k + 1) y0 y1 y2 y3))
  | 0 => fun _ _ _ _ r h => by simp [share_Out.l0] at h
  | k + 1 => by
    have ih0 := share_Out.mono_l k
    · intro y0 y1 y2 y3
      unfold share_Out.l0
      repeat' first
      | (with_reducible exact ih0 _ _ _ _)
      | (with_reducible exact share_Whole.mono _ _)
      | (with_reducible exact share_even.mono _ _)
      | (with_reducible exact share_parts.mono _ _ _ _)
      | (with_reducible exact slices_Max_int_int.mono _ _)
      | (with_reducible exact LeO.refl _)
      | (with_reducible exact LeO.none _)
      | (with_reducible refine LeO.ite ?_ ?_)
      | (with_reducible refine LeO.bind ?_ (fun _ => ?_))
      | exact ih0 _ _ _ _
      | exact share_Whole.mono _ _
      | exact share_even.mono _ _
      | exact share_parts.mono _ _ _ _
      | exact slices_Max_int_int.mono _ _
      | exact LeO.none _
      | refine LeO.ite ?_ ?_
      | refine LeO.bind ?_ (fun _ => ?_)
theorem share_Out.mono : ∀ a0 a1 k, LeO (share_Out.f k a0 a1) (share_Out.f (k + 1) a0 a1) := by
  intro a0 a1 k
  have ih0 := share_Out.mono_l k
  unfold share_Out.f
  repeat' first
      | (with_reducible exact ih0 _ _ _ _)
      | (with_reducible exact share_Whole.mono _ _)
      | (with_reducible exact share_even.mono _ _)
      | (with_reducible exact share_parts.mono _ _ _ _)
      | (with_reducible exact slices_Max_int_int.mono _ _)
      | (with_reducible exact LeO.refl _)
      | (with_reducible exact LeO.none _)
      | (with_reducible refine LeO.ite ?_ ?_)
      | (with_reducible refine LeO.bind ?_ (fun _ => ?_))
      | exact ih0 _ _ _ _
      | exact share_Whole.mono _ _
      | exact share_even.mono _ _
      | exact share_parts.mono _ _ _ _
      | exact slices_Max_int_int.mono _ _
      | exact LeO.none _
      | refine LeO.ite ?_ ?_
      | refine LeO.bind ?_ (fun _ => ?_)
set_option maxHeartbeats 8000000 in
set_option maxRecDepth 100000 in
theorem share_Out.calls (k : Nat) (a0 : Int) (A1 : Option Addr) (c1 : Nat) (l1 : List Int) (r1 : List Int) (r2 : Int) (w : World) (hr1 : Kd.C (Kd.int .i64) w A1 l1.length l1) (hc1 : l1.length ≤ c1) (h : share_Out.f k a0 l1 = some (r1, r2)) :
    Calls Try.prog 51 #[.int .i64 a0, .slice A1 l1.length c1] w fun e w' => ∃ v0_ : Value, e = .returned (.tuple #[v0_, .int .i64 r2]) ∧ Kd.R (Kd.int .i64) 3 w' w.heap.size (fun _ => True) v0_ r1 ∧ Below w.heap.size w w' := by
  have hmf : ∀ (fn : Fn) (first cap : Array Value) (w : World), (Instr.makeFunc fn first cap).run Try.prog w = .ok (.func fn first cap) w := fun _ _ _ _ => rfl
  have HR1 := Aside0.mk hr1
  have HC1 := Aside0.mk hc1
  clear hr1 hc1
  have HB := Aside0.mk (Below.refl w.heap.size w)
  have H : ((share_Whole.f k l1).bind fun bt101 => (if bt101.2 = 0 then (if a0 < 0 then (some (([] : List Int), 8)) else ((cents_In.f a0).bind fun t103 => (if t103 = true then ((slices_Max_int_int.f k l1).bind fun t104 => (if t104 = 0 then ((share_even.f k (l1.length : Int)).bind fun t105 => ((share_parts.f k a0 bt101.1 t105).bind fun bt108 => (if bt108.2.2.2 = 0 then ((share_by_share_Out_1_v22.f (bt108.1.length : Int) bt108.2.1).bind fun t117 => (if 0 ≤ bt108.2.2.1 then (if bt108.2.2.1 ≤ (t117.length : Int) then ((some (t117.take (bt108.2.2.1 : Int).toNat : List Int)).bind fun y120 => (share_Out.l0 k bt108.1 y120 (y120.length : Int) 0)) else (none)) else (none))) else (some (([] : List Int), bt108.2.2.2))))) else ((share_parts.f k a0 bt101.1 l1).bind fun bt126 => (if bt126.2.2.2 = 0 then ((share_by_share_Out_1_v22.f (bt126.1.length : Int) bt126.2.1).bind fun t135 => (if 0 ≤ bt126.2.2.1 then (if bt126.2.2.1 ≤ (t135.length : Int) then ((some (t135.take (bt126.2.2.1 : Int).toNat : List Int)).bind fun y138 => (share_Out.l0 k bt126.1 y138 (y138.length : Int) 0)) else (none)) else (none))) else (some (([] : List Int), bt126.2.2.2)))))) else (some (([] : List Int), 8))))) else (some (([] : List Int), bt101.2)))) = some (r1, r2) := h
  clear h
  replace H := Option.bind_eq_some_iff.mp H
  obtain ⟨⟨t101, t102⟩, A30, H⟩ := H
  replace H : (if t102 = 0 then (if a0 < 0 then (some (([] : List Int), 8)) else ((cents_In.f a0).bind fun t103 => (if t103 = true then ((slices_Max_int_int.f k l1).bind fun t104 => (if t104 = 0 then ((share_even.f k (l1.length : Int)).bind fun t105 => ((share_parts.f k a0 t101 t105).bind fun bt108 => (if bt108.2.2.2 = 0 then ((share_by_share_Out_1_v22.f (bt108.1.length : Int) bt108.2.1).bind fun t117 => (if 0 ≤ bt108.2.2.1 then (if bt108.2.2.1 ≤ (t117.length : Int) then ((some (t117.take (bt108.2.2.1 : Int).toNat : List Int)).bind fun y120 => (share_Out.l0 k bt108.1 y120 (y120.length : Int) 0)) else (none)) else (none))) else (some (([] : List Int), bt108.2.2.2))))) else ((share_parts.f k a0 t101 l1).bind fun bt126 => (if bt126.2.2.2 = 0 then ((share_by_share_Out_1_v22.f (bt126.1.length : Int) bt126.2.1).bind fun t135 => (if 0 ≤ bt126.2.2.1 then (if bt126.2.2.1 ≤ (t135.length : Int) then ((some (t135.take (bt126.2.2.1 : Int).toNat : List Int)).bind fun y138 => (share_Out.l0 k bt126.1 y138 (y138.length : Int) 0)) else (none)) else (none))) else (some (([] : List Int), bt126.2.2.2)))))) else (some (([] : List Int), 8))))) else (some (([] : List Int), t102))) = some (r1, r2) := H
  have A3 := Aside0.mk A30
  clear A30
  by_cases c4 : t102 = 0
  · rw [if_pos c4] at H
    have c4b0 : (t102 == 0) = true := beq_iff_eq.mpr c4
    have c4b1 : (t102 != 0) = false := bne_eq_false_iff_eq.mpr c4
    clear c4
    by_cases c5 : a0 < 0
    · rw [if_pos c5] at H
      have c5b0 : decide (a0 < 0) = true := decide_eq_true c5
      clear c5
      simp only [Option.some.injEq, Prod.mk.injEq] at H
      obtain ⟨rfl, rfl⟩ := H
      go_enter Try.func51, Try.ntmps51
      go_wp2_with (first | ((with_reducible refine gate_callee (f := 57) rfl ?_); refine goesL_ (some 15) rfl rfl Try.func57 (by kernel_rfl) rfl #[.slice A1 l1.length c1] rfl (by (try simp only [List.map_toArray, List.map_cons, List.map_nil]); first | done | rfl | (simp only [List.length_drop, List.length_take]; rfl)) ?_; (with_reducible refine (share_Whole.calls k _ _ l1 t101 t102 _ ?side1 ?side2 A3.out).mono ?_); (case side1 => repeat (first | exact HR1.out | (with_reducible refine Kd.C_alloc ?_ _) | (with_reducible refine Kd.C_drewN ?_ _) | (with_reducible refine Kd.C_drew ?_))); (case side2 => exact HC1.out); rintro e w' ⟨rfl, ⟨nd, rfl⟩⟩; refine ⟨_, rfl, ?_⟩))
      go_ret2
      exact ⟨_, by first | rfl | (simp [errW_none, errW_some] <;> rfl) | (simp [*, errW_none, errW_some] <;> rfl), by first | exact Kd.R_nil _ _ _ _ _ | exact Kd.N_nil _ _ _ _ _ | exact Kd.V_nil _ _ _ _ _ | exact Kd.Q_nil _ _ _ _ _ | exact Kd.S_nil _ _ _ _ _, by repeat (first | (with_reducible first | exact HB.out | apply below_alloc | apply pw_below_drewN | apply below_drew1) | exact HB.out)⟩
    · rw [if_neg c5] at H
      have c5b0 : decide (a0 < 0) = false := decide_eq_false c5
      clear c5
      replace H := Option.bind_eq_some_iff.mp H
      obtain ⟨t103, A60, H⟩ := H
      replace H : (if t103 = true then ((slices_Max_int_int.f k l1).bind fun t104 => (if t104 = 0 then ((share_even.f k (l1.length : Int)).bind fun t105 => ((share_parts.f k a0 t101 t105).bind fun bt108 => (if bt108.2.2.2 = 0 then ((share_by_share_Out_1_v22.f (bt108.1.length : Int) bt108.2.1).bind fun t117 => (if 0 ≤ bt108.2.2.1 then (if bt108.2.2.1 ≤ (t117.length : Int) then ((some (t117.take (bt108.2.2.1 : Int).toNat : List Int)).bind fun y120 => (share_Out.l0 k bt108.1 y120 (y120.length : Int) 0)) else (none)) else (none))) else (some (([] : List Int), bt108.2.2.2))))) else ((share_parts.f k a0 t101 l1).bind fun bt126 => (if bt126.2.2.2 = 0 then ((share_by_share_Out_1_v22.f (bt126.1.length : Int) bt126.2.1).bind fun t135 => (if 0 ≤ bt126.2.2.1 then (if bt126.2.2.1 ≤ (t135.length : Int) then ((some (t135.take (bt126.2.2.1 : Int).toNat : List Int)).bind fun y138 => (share_Out.l0 k bt126.1 y138 (y138.length : Int) 0)) else (none)) else (none))) else (some (([] : List Int), bt126.2.2.2)))))) else (some (([] : List Int), 8))) = some (r1, r2) := H
      have A6 := Aside0.mk A60
      clear A60
      by_cases c7 : t103 = true
      · subst c7
        have H1 : ((slices_Max_int_int.f k l1).bind fun t104 => (if t104 = 0 then ((share_even.f k (l1.length : Int)).bind fun t105 => ((share_parts.f k a0 t101 t105).bind fun bt108 => (if bt108.2.2.2 = 0 then ((share_by_share_Out_1_v22.f (bt108.1.length : Int) bt108.2.1).bind fun t117 => (if 0 ≤ bt108.2.2.1 then (if bt108.2.2.1 ≤ (t117.length : Int) then ((some (t117.take (bt108.2.2.1 : Int).toNat : List Int)).bind fun y120 => (share_Out.l0 k bt108.1 y120 (y120.length : Int) 0)) else (none)) else (none))) else (some (([] : List Int), bt108.2.2.2))))) else ((share_parts.f k a0 t101 l1).bind fun bt126 => (if bt126.2.2.2 = 0 then ((share_by_share_Out_1_v22.f (bt126.1.length : Int) bt126.2.1).bind fun t135 => (if 0 ≤ bt126.2.2.1 then (if bt126.2.2.1 ≤ (t135.length : Int) then ((some (t135.take (bt126.2.2.1 : Int).toNat : List Int)).bind fun y138 => (share_Out.l0 k bt126.1 y138 (y138.length : Int) 0)) else (none)) else (none))) else (some (([] : List Int), bt126.2.2.2)))))) = some (r1, r2) := by first | (rw [if_pos rfl] at H; exact H) | rfl
        clear H
        have H := H1
        clear H1
        replace H := Option.bind_eq_some_iff.mp H
        obtain ⟨t104, A80, H⟩ := H
        replace H : (if t104 = 0 then ((share_even.f k (l1.length : Int)).bind fun t105 => ((share_parts.f k a0 t101 t105).bind fun bt108 => (if bt108.2.2.2 = 0 then ((share_by_share_Out_1_v22.f (bt108.1.length : Int) bt108.2.1).bind fun t117 => (if 0 ≤ bt108.2.2.1 then (if bt108.2.2.1 ≤ (t117.length : Int) then ((some (t117.take (bt108.2.2.1 : Int).toNat : List Int)).bind fun y120 => (share_Out.l0 k bt108.1 y120 (y120.length : Int) 0)) else (none)) else (none))) else (some (([] : List Int), bt108.2.2.2))))) else ((share_parts.f k a0 t101 l1).bind fun bt126 => (if bt126.2.2.2 = 0 then ((share_by_share_Out_1_v22.f (bt126.1.length : Int) bt126.2.1).bind fun t135 => (if 0 ≤ bt126.2.2.1 then (if bt126.2.2.1 ≤ (t135.length : Int) then ((some (t135.take (bt126.2.2.1 : Int).toNat : List Int)).bind fun y138 => (share_Out.l0 k bt126.1 y138 (y138.length : Int) 0)) else (none)) else (none))) else (some (([] : List Int), bt126.2.2.2))))) = some (r1, r2) := H
        have A8 := Aside0.mk A80
        clear A80
        by_cases c9 : t104 = 0
        · rw [if_pos c9] at H
          have c9b0 : (t104 == 0) = true := beq_iff_eq.mpr c9
          have c9b1 : (t104 != 0) = false := bne_eq_false_iff_eq.mpr c9
          clear c9
          replace H := Option.bind_eq_some_iff.mp H
          obtain ⟨t105, A100, H⟩ := H
          replace H : ((share_parts.f k a0 t101 t105).bind fun bt108 => (if bt108.2.2.2 = 0 then ((share_by_share_Out_1_v22.f (bt108.1.length : Int) bt108.2.1).bind fun t117 => (if 0 ≤ bt108.2.2.1 then (if bt108.2.2.1 ≤ (t117.length : Int) then ((some (t117.take (bt108.2.2.1 : Int).toNat : List Int)).bind fun y120 => (share_Out.l0 k bt108.1 y120 (y120.length : Int) 0)) else (none)) else (none))) else (some (([] : List Int), bt108.2.2.2)))) = some (r1, r2) := H
          have A10 := Aside0.mk A100
          clear A100
          replace H := Option.bind_eq_some_iff.mp H
          obtain ⟨⟨t108, t109, t110, t111⟩, A110, H⟩ := H
          replace H : (if t111 = 0 then ((share_by_share_Out_1_v22.f (t108.length : Int) t109).bind fun t117 => (if 0 ≤ t110 then (if t110 ≤ (t117.length : Int) then ((some (t117.take (t110 : Int).toNat : List Int)).bind fun y120 => (share_Out.l0 k t108 y120 (y120.length : Int) 0)) else (none)) else (none))) else (some (([] : List Int), t111))) = some (r1, r2) := H
          have A11 := Aside0.mk A110
          clear A110
          by_cases c12 : t111 = 0
          · rw [if_pos c12] at H
            have c12b0 : (t111 == 0) = true := beq_iff_eq.mpr c12
            have c12b1 : (t111 != 0) = false := bne_eq_false_iff_eq.mpr c12
            clear c12
            replace H := Option.bind_eq_some_iff.mp H
            obtain ⟨t117, A130, H⟩ := H
            replace H : (if 0 ≤ t110 then (if t110 ≤ (t117.length : Int) then ((some (t117.take (t110 : Int).toNat : List Int)).bind fun y120 => (share_Out.l0 k t108 y120 (y120.length : Int) 0)) else (none)) else (none)) = some (r1, r2) := H
            have A13 := Aside0.mk A130
            clear A130
            by_cases c14 : 0 ≤ t110
            · rw [if_pos c14] at H
              have c14b0 := eq_true c14
              have c14b1 : decide (0 ≤ t110) = true := decide_eq_true c14
              clear c14
              by_cases c15 : t110 ≤ (t117.length : Int)
              · rw [if_pos c15] at H
                have c15b0 := eq_true c15
                have c15b1 : decide (t110 ≤ (t117.length : Int)) = true := decide_eq_true c15
                clear c15
                obtain ⟨y120, hy120⟩ : ∃ y_ : List Int, y_ = (t117.take (t110 : Int).toNat) := ⟨_, rfl⟩
                replace H : (share_Out.l0 k t108 y120 (y120.length : Int) 0) = some (r1, r2) := by first | (rw [hy120]; with_reducible exact H) | (have H2_ := (Option.bind_some _ _).symm.trans H; rw [hy120]; with_reducible exact H2_) | (have H2_ := (Option.bind_some _ _).symm.trans H; with_reducible exact H2_) | with_reducible exact H | (rw [hy120]; exact H) | exact H
                have Ny120 := Aside0.mk hy120
                clear hy120
                have H' := Aside0.mk H
                clear H
                go_enter Try.func51, Try.ntmps51
                go_wp2_with (first | ((with_reducible refine gate_callee (f := 57) rfl ?_); refine goesL_ (some 15) rfl rfl Try.func57 (by kernel_rfl) rfl #[.slice A1 l1.length c1] rfl (by (try simp only [List.map_toArray, List.map_cons, List.map_nil]); first | done | rfl | (simp only [List.length_drop, List.length_take]; rfl)) ?_; (with_reducible refine (share_Whole.calls k _ _ l1 t101 t102 _ ?side1 ?side2 A3.out).mono ?_); (case side1 => repeat (first | exact HR1.out | (with_reducible refine Kd.C_alloc ?_ _) | (with_reducible refine Kd.C_drewN ?_ _) | (with_reducible refine Kd.C_drew ?_))); (case side2 => exact HC1.out); rintro e w' ⟨rfl, ⟨nd, rfl⟩⟩; refine ⟨_, rfl, ?_⟩) | (go_at_call 31; (with_reducible refine (cents_In.calls a0 true _ A6.out).mono ?_); rintro e w' ⟨rfl, ⟨nd, rfl⟩⟩) | ((with_reducible refine gate_callee (f := 105) rfl ?_); refine goesL_ (some 29) rfl rfl Try.func105 (by kernel_rfl) rfl #[.slice A1 l1.length c1] rfl (by (try simp only [List.map_toArray, List.map_cons, List.map_nil]); first | done | rfl | (simp only [List.length_drop, List.length_take]; rfl)) ?_; (with_reducible refine (slices_Max_int_int.calls k _ _ l1 t104 _ ?side1 ?side2 A8.out).mono ?_); (case side1 => repeat (first | exact HR1.out | (with_reducible refine Kd.C_alloc ?_ _) | (with_reducible refine Kd.C_drewN ?_ _) | (with_reducible refine Kd.C_drew ?_))); (case side2 => exact HC1.out); rintro e w16 ⟨rfl, hb⟩; refine ⟨_, rfl, ?_⟩; have n0_ := Aside0.mk (below_step (by repeat (first | (with_reducible first | exact HB.out | apply below_alloc | apply pw_below_drewN | apply below_drew1) | exact HB.out)) hb); clear HB; have HB := n0_; clear n0_; (try clear hb); (try clear hb2); (try clear hk); (try clear hi)) | ((with_reducible refine gate_callee (f := 106) rfl ?_); refine goesL_ (some 33) rfl rfl Try.func106 (by kernel_rfl) rfl #[.int .i64 (l1.length : Int)] rfl (by (try simp only [List.map_toArray, List.map_cons, List.map_nil]); first | done | rfl | (simp only [List.length_drop, List.length_take]; rfl)) ?_; (with_reducible refine (share_even.calls k (l1.length : Int) t105 _ A10.out).mono ?_); rintro e w17 ⟨v106, rfl, ho0, hb⟩; refine ⟨_, rfl, ?_⟩; have n0_ := Aside0.mk (Kd.R_lower ho0 (below_size (by repeat (first | (with_reducible first | exact HB.out | apply below_alloc | apply pw_below_drewN | apply below_drew1) | exact HB.out)))); have n1_ := Aside0.mk (below_step (by repeat (first | (with_reducible first | exact HB.out | apply below_alloc | apply pw_below_drewN | apply below_drew1) | exact HB.out)) hb); clear HB; have HO107 := n0_; have HB := n1_; clear n0_ n1_; (try clear hb); (try clear hb2); (try clear hk); (try clear hi); (try clear ho0); obtain ⟨Ao18, co18, eo18⟩ := Kd.R_slice HO107.out; subst eo18) | ((with_reducible refine gate_callee (f := 107) rfl ?_); refine goesL_ (some 38) rfl rfl Try.func107 (by kernel_rfl) rfl #[.int .i64 a0, .int .i64 t101, .slice Ao18 t105.length co18] rfl (by (try simp only [List.map_toArray, List.map_cons, List.map_nil]); first | done | rfl | (simp only [List.length_drop, List.length_take]; rfl)) ?_; (with_reducible refine (share_parts.calls k a0 t101 _ _ t105 t108 t109 t110 t111 _ ?side1 ?side2 A11.out).mono ?_); (case side1 => repeat (first | exact (Kd.R_reads' HO107.out).2.2 | (with_reducible refine Kd.C_alloc ?_ _) | (with_reducible refine Kd.C_drewN ?_ _) | (with_reducible refine Kd.C_drew ?_))); (case side2 => exact (Kd.R_reads' HO107.out).2.1); rintro e w19 ⟨v112, v114, rfl, ho0, ho1, hb⟩; refine ⟨_, rfl, ?_⟩; have n0_ := Aside0.mk (Kd.R_mono (Kd.R_told (Kd.R_told (Kd.R_old (by (with_reducible repeat (first | apply Kd.R_alloc | apply Kd.R_drewN | apply Kd.R_drew)); exact HO107.out) hb) (Kd.R_base ho0)) (Kd.R_base ho1)) (fun _ h_ => h_.1)); have n1_ := Aside0.mk (Kd.R_lower (Kd.R_new' ho0 (Kd.R_lt (by (with_reducible repeat (first | apply Kd.R_alloc | apply Kd.R_drewN | apply Kd.R_drew)); exact HO107.out))) (below_size (by repeat (first | (with_reducible first | exact HB.out | apply below_alloc | apply pw_below_drewN | apply below_drew1) | exact HB.out)))); have n2_ := Aside0.mk (Kd.R_lower (Kd.R_new' ho1 (Kd.R_lt (by (with_reducible repeat (first | apply Kd.R_alloc | apply Kd.R_drewN | apply Kd.R_drew)); exact HO107.out))) (below_size (by repeat (first | (with_reducible first | exact HB.out | apply below_alloc | apply pw_below_drewN | apply below_drew1) | exact HB.out)))); have n3_ := Aside0.mk (below_step (by repeat (first | (with_reducible first | exact HB.out | apply below_alloc | apply pw_below_drewN | apply below_drew1) | exact HB.out)) hb); clear HO107; clear HB; have HO107 := n0_; have HO113 := n1_; have HO115 := n2_; have HB := n3_; clear n0_ n1_ n2_ n3_; (try clear hb); (try clear hb2); (try clear hk); (try clear hi); (try clear ho0); (try clear ho1)) | ((with_reducible refine gate_dst (N := 9) rfl ?_); refine box_event ?hg (N := 9) ?hd (cs := #[.slice none 0 0]) (t := 22) ?hr ?_; (case hd => rfl); (case hg => rfl); (case hr => first | (go_simp; done) | (go_simp; rfl)); intro gb116 hg w20 hbox hb; have n0_ := Aside0.mk (Kd.R_below (by (with_reducible repeat (first | apply Kd.R_alloc | apply Kd.R_drewN | apply Kd.R_drew)); exact HO107.out) hb); have n1_ := Aside0.mk (Kd.R_below (by (with_reducible repeat (first | apply Kd.R_alloc | apply Kd.R_drewN | apply Kd.R_drew)); exact HO113.out) hb); have n2_ := Aside0.mk (Kd.R_below (by (with_reducible repeat (first | apply Kd.R_alloc | apply Kd.R_drewN | apply Kd.R_drew)); exact HO115.out) hb); have n3_ := Aside0.mk (below_step (by repeat (first | (with_reducible first | exact HB.out | apply below_alloc | apply pw_below_drewN | apply below_drew1) | exact HB.out)) hb); have n4_ := Aside0.mk (hbox); have n5_ := Aside0.mk ((by rw [hg]; exact (below_size (by repeat (first | (with_reducible first | exact HB.out | apply below_alloc | apply pw_below_drewN | apply below_drew1) | exact HB.out))) : w.heap.size ≤ gb116)); have n6_ := Aside0.mk ((by rw [hg]; exact (below_size (by repeat (first | (with_reducible first | exact HB.out | apply below_alloc | apply pw_below_drewN | apply below_drew1) | exact HB.out))) : w.heap.size ≤ gb116)); clear HO107; clear HO113; clear HO115; clear HB; have HO107 := n0_; have HO113 := n1_; have HO115 := n2_; have HB := n3_; have BK116 := n4_; have GW116 := n5_; have GE116 := n6_; clear n0_ n1_ n2_ n3_ n4_ n5_ n6_; clear hb hbox hg; obtain ⟨Ao21, co21, eo21⟩ := Kd.R_slice HO115.out; subst eo21; have hcz22_0 : w20.cell? ⟨gb116, 0, none⟩ = some (.slice none 0 0) := (blk_cell BK116.out 0).trans rfl; have hfz22_0 := blk_frozen BK116.out 0; obtain ⟨Ao23, co23, eo23⟩ := Kd.R_slice HO113.out; subst eo23) | (go_at_call 108; (with_reducible refine (share_by_share_Out_1_v22.calls (t108.length : Int) gb116 Ao21 co21 t109 t117 _ ?side1 ?side2 ?side3 A13.out).mono ?_); (case side1 => exact (by (with_reducible repeat (first | refine blk_drewN ?_ _ | refine blk_drew ?_ | refine blk_alloc ?_ _)); refine blk_put (cs := #[.slice none 0 0]) ?_ 0 _ rfl; (with_reducible repeat (first | refine blk_drewN ?_ _ | refine blk_drew ?_ | refine blk_alloc ?_ _)); exact BK116.out)); (case side2 => refine (Kd.R_reads' (e := 3) (base := w.heap.size) (ok := fun k_ => (some k_ ≠ (.slice Ao23 t108.length co23 : Value).ownBlock ∧ some k_ ≠ (.slice Ao18 t105.length co18 : Value).ownBlock)) (n := t109.length) (c := co21) ?_).2.2; exact (by (with_reducible repeat (first | apply Kd.R_alloc | apply Kd.R_drewN | apply Kd.R_drew)); exact (Kd.R_mono (Kd.R_far (p := ⟨gb116, 0, none⟩) (Kd.R_types HO115.out BK116.out (by decide)) (fun _ hk => hk.2) (.slice Ao21 t109.length co21)) (fun _ h_ => h_.1)))); (case side3 => exact (Kd.R_reads' HO115.out).2.1); rintro e w24 ⟨v118, rfl, ho0, hb⟩; have n0_ := Aside0.mk (Kd.R_elder' (by (with_reducible repeat (first | apply Kd.R_alloc | apply Kd.R_drewN | apply Kd.R_drew)); exact (Kd.R_mono (Kd.R_far (p := ⟨gb116, 0, none⟩) (Kd.R_types HO107.out BK116.out (by decide)) (fun _ hk => hk.2) (.slice Ao21 t109.length co21)) (fun _ h_ => h_.1))) (Kd.R_base ho0) hb); have n1_ := Aside0.mk (Kd.R_elder' (by (with_reducible repeat (first | apply Kd.R_alloc | apply Kd.R_drewN | apply Kd.R_drew)); exact (Kd.R_mono (Kd.R_far (p := ⟨gb116, 0, none⟩) (Kd.R_types HO113.out BK116.out (by decide)) (fun _ hk => hk.2) (.slice Ao21 t109.length co21)) (fun _ h_ => h_.1))) (Kd.R_base ho0) hb); have n2_ := Aside0.mk (Kd.R_elder' (by (with_reducible repeat (first | apply Kd.R_alloc | apply Kd.R_drewN | apply Kd.R_drew)); exact (Kd.R_mono (Kd.R_far (p := ⟨gb116, 0, none⟩) (Kd.R_types HO115.out BK116.out (by decide)) (fun _ hk => hk.2) (.slice Ao21 t109.length co21)) (fun _ h_ => h_.1))) (Kd.R_base ho0) hb); have n3_ := Aside0.mk (Kd.R_lower (Kd.R_new' (Kd.R_new' (Kd.R_new' ho0 (Kd.R_lt (by (with_reducible repeat (first | apply Kd.R_alloc | apply Kd.R_drewN | apply Kd.R_drew)); exact (Kd.R_mono (Kd.R_far (p := ⟨gb116, 0, none⟩) (Kd.R_types HO107.out BK116.out (by decide)) (fun _ hk => hk.2) (.slice Ao21 t109.length co21)) (fun _ h_ => h_.1))))) (Kd.R_lt (by (with_reducible repeat (first | apply Kd.R_alloc | apply Kd.R_drewN | apply Kd.R_drew)); exact (Kd.R_mono (Kd.R_far (p := ⟨gb116, 0, none⟩) (Kd.R_types HO113.out BK116.out (by decide)) (fun _ hk => hk.2) (.slice Ao21 t109.length co21)) (fun _ h_ => h_.1))))) (Kd.R_lt (by (with_reducible repeat (first | apply Kd.R_alloc | apply Kd.R_drewN | apply Kd.R_drew)); exact (Kd.R_mono (Kd.R_far (p := ⟨gb116, 0, none⟩) (Kd.R_types HO115.out BK116.out (by decide)) (fun _ hk => hk.2) (.slice Ao21 t109.length co21)) (fun _ h_ => h_.1))))) (below_size (by repeat (first | (with_reducible first | exact HB.out | apply below_alloc | apply pw_below_drewN | apply below_drew1 | refine below_set ?_ GE116.out) | exact HB.out)))); have n4_ := Aside0.mk (blk_below (g := gb116) (o := .cells #[.slice Ao21 t109.length co21] 22 (0, 0)) (by (with_reducible repeat (first | refine blk_drewN ?_ _ | refine blk_drew ?_ | refine blk_alloc ?_ _)); refine blk_put (cs := #[.slice none 0 0]) ?_ 0 _ rfl; (with_reducible repeat (first | refine blk_drewN ?_ _ | refine blk_drew ?_ | refine blk_alloc ?_ _)); exact BK116.out) hb); have n5_ := Aside0.mk (below_step (by repeat (first | (with_reducible first | exact HB.out | apply below_alloc | apply pw_below_drewN | apply below_drew1 | refine below_set ?_ GE116.out) | exact HB.out)) hb); clear HO107; clear HO113; clear HO115; clear BK116; clear HB; have HO107 := n0_; have HO113 := n1_; have HO115 := n2_; have HO119 := n3_; have BK116 := n4_; have HB := n5_; clear n0_ n1_ n2_ n3_ n4_ n5_; (try clear hb); (try clear hb2); (try clear hk); (try clear hi); (try clear ho0); obtain ⟨Ao25, co25, eo25⟩ := Kd.R_slice HO119.out; subst eo25; have q26 : (t110 : Int) ≤ ((t117.length : Int) : Int) := of_decide_eq_true (by first | (with_reducible assumption) | assumption); obtain ⟨i026, hi026, _, hsz26, _⟩ := info_parts info3; have hcut26 := cut_to (P := Try.prog) 22 3 .i64 Try.underlying22 hi026 Ao25 t117.length co25 t110 (of_decide_eq_true (by first | (with_reducible assumption) | assumption)) q26 (Kd.R_reads' HO119.out).2.1; have hr26 := Kd.R_take (m := (t110 : Int).toNat) HO119.out (by omega); have hy26 : y120.length = (t110 : Int).toNat := (by rw [Ny120.out, List.length_take]; omega); rw [← Ny120.out] at hr26; rw [← hy26] at hr26 hcut26; clear hy26 hi026 hsz26 HO119; have HO122 := Aside0.mk hr26; clear hr26; replace q26 := eq_true q26))
                go_loopg [53] k (fun kq v53 w' => ∃ (x8_1 : List Int) (x53_1 : Int), v53 = .int .i64 x53_1 ∧ Aside0 (share_Out.l0 kq x8_1 y120 (y120.length : Int) x53_1 = some (r1, r2)) ∧ Aside0 (kq ≤ k) ∧ Aside0 (Kd.R (Kd.int .i64) 3 w' w.heap.size (fun k_ => some k_ ≠ ((.slice Ao25 y120.length co25) : Value).ownBlock ∧ some k_ ≠ ((.slice Ao21 t109.length co21) : Value).ownBlock) (.slice Ao23 t108.length co23) x8_1) ∧ Aside0 (Kd.R (Kd.int .i64) 3 w' w.heap.size (fun k_ => some k_ ≠ ((.slice Ao23 t108.length co23) : Value).ownBlock ∧ some k_ ≠ ((.slice Ao21 t109.length co21) : Value).ownBlock) (.slice Ao25 y120.length co25) y120) ∧ Aside0 (Kd.R (Kd.int .i64) 3 w' w.heap.size (fun k_ => some k_ ≠ ((.slice Ao23 t108.length co23) : Value).ownBlock ∧ some k_ ≠ ((.slice Ao25 y120.length co25) : Value).ownBlock) (.slice Ao21 t109.length co21) t109) ∧ Aside0 (w'.heap[gb116]? = some (.cells #[(.slice Ao21 t109.length co21)] 22 (0, 0))) ∧ Aside0 (Below w.heap.size w w'))
                case atStart => exact ⟨(t108), (0), (by first | rfl | (simp; done) | (simp [*]; done)), H', ⟨Nat.le_refl _⟩, ⟨by (with_reducible repeat (first | apply Kd.R_alloc | apply Kd.R_drewN | apply Kd.R_drew)); exact Kd.R_mono HO113.out (fun _ hk => ⟨own_len hk.2, hk.1.1⟩)⟩, ⟨by (with_reducible repeat (first | apply Kd.R_alloc | apply Kd.R_drewN | apply Kd.R_drew)); exact Kd.R_mono HO122.out (fun _ hk => ⟨hk.1.2, hk.2⟩)⟩, ⟨by (with_reducible repeat (first | apply Kd.R_alloc | apply Kd.R_drewN | apply Kd.R_drew)); exact Kd.R_mono HO115.out (fun _ hk => ⟨hk.1.1, own_len hk.2⟩)⟩, ⟨by (with_reducible repeat (first | refine blk_drewN ?_ _ | refine blk_drew ?_ | refine blk_alloc ?_ _)); exact BK116.out⟩, ⟨by repeat (first | (with_reducible first | exact HB.out | apply below_alloc | apply pw_below_drewN | apply below_drew1 | refine below_set ?_ GE116.out) | exact HB.out)⟩⟩
                case round =>
                  clear H'
                  try clear c1
                  try clear p2
                  try clear q2
                  try clear c4
                  try clear c4b0
                  try clear c4b1
                  try clear c5
                  try clear c5b0
                  try clear c7
                  try clear c9
                  try clear c9b0
                  try clear c9b1
                  try clear c10
                  try clear c12
                  try clear c12b0
                  try clear c12b1
                  try clear c14
                  try clear c14b0
                  try clear c14b1
                  try clear c15
                  try clear c15b0
                  try clear c15b1
                  try clear q26
                  try clear hcz22_0
                  try clear hfz22_0
                  try clear q26
                  obtain ⟨x8_1, x53_1, rfl, HA, HK1, HO_8, HO_51, HO_117000, BK116, HB⟩ := hrel
                  have hl8_1 := (Kd.R_reads' HO_8.out).1
                  rw [hl8_1] at HO_8
                  (try simp only [hl8_1])
                  (try simp only [hl8_1] at BK116)
                  (try simp only [hl8_1] at HO_51)
                  (try simp only [hl8_1] at HO_117000)
                  cases gk with
                  | zero => exact absurd HA.out (by simp [share_Out.l0])
                  | succ k1 =>
                    have H := HA.out
                    clear HA
                    simp only [share_Out.l0] at H
                    by_cases c27 : x53_1 < (y120.length : Int)
                    · rw [if_pos c27] at H
                      have c27b0 : decide (x53_1 < (y120.length : Int)) = true := decide_eq_true c27
                      clear c27
                      by_cases c28 : 0 ≤ x53_1
                      · rw [if_pos c28] at H
                        have c28b0 : decide (0 ≤ x53_1) = true := decide_eq_true c28
                        clear c28
                        by_cases c29 : x53_1 < (y120.length : Int)
                        · rw [if_pos c29] at H
                          have c29b0 : decide (x53_1 < (y120.length : Int)) = true := decide_eq_true c29
                          clear c29
                          by_cases c30 : 0 ≤ (rd y120 x53_1)
                          · rw [if_pos c30] at H
                            have c30b0 : decide (0 ≤ (rd y120 x53_1)) = true := decide_eq_true c30
                            clear c30
                            by_cases c31 : (rd y120 x53_1) < (x8_1.length : Int)
                            · rw [if_pos c31] at H
                              have c31b0 : decide ((rd y120 x53_1) < (x8_1.length : Int)) = true := decide_eq_true c31
                              clear c31
                              obtain ⟨y125, hy125⟩ : ∃ y_ : List Int, y_ = (x8_1.set ((rd y120 x53_1) : Int).toNat (wrap64 ((rd x8_1 (rd y120 x53_1)) + 1))) := ⟨_, rfl⟩
                              replace H : (share_Out.l0 k1 y125 y120 (y120.length : Int) (wrap64 (x53_1 + 1))) = some (r1, r2) := by first | (rw [hy125]; with_reducible exact H) | (have H2_ := (Option.bind_some _ _).symm.trans H; rw [hy125]; with_reducible exact H2_) | (have H2_ := (Option.bind_some _ _).symm.trans H; with_reducible exact H2_) | with_reducible exact H | (rw [hy125]; exact H) | exact H
                              have Ny125 := Aside0.mk hy125
                              clear hy125
                              have H' := Aside0.mk H
                              clear H
                              have p123 : 0 ≤ (x53_1 : Int) := of_decide_eq_true (by first | (with_reducible assumption) | assumption)
                              have q123 : x53_1 < (y120.length : Int) := of_decide_eq_true (by first | (with_reducible assumption) | assumption)
                              obtain ⟨ad123, e123, hx123_0⟩ := Kd.at_int (Kd.R_reads' HO_51.out).2.2 x53_1 p123 q123
                              cases e123
                              replace p123 := eq_true p123
                              replace q123 := eq_true q123
                              have p124 : 0 ≤ ((rd y120 x53_1) : Int) := of_decide_eq_true (by first | (with_reducible assumption) | assumption)
                              have q124 : (rd y120 x53_1) < (x8_1.length : Int) := of_decide_eq_true (by first | (with_reducible assumption) | assumption)
                              obtain ⟨ad124, e124, hx124_0⟩ := Kd.at_int (Kd.R_reads' HO_8.out).2.2 (rd y120 x53_1) p124 q124
                              cases e124
                              replace p124 := eq_true p124
                              replace q124 := eq_true q124
                              have p32 : 0 ≤ ((rd y120 x53_1) : Int) := of_decide_eq_true (by first | (with_reducible assumption) | assumption)
                              have q32 : ((rd y120 x53_1) : Int) < ((x8_1.length : Int) : Int) := of_decide_eq_true (by first | (with_reducible assumption) | assumption)
                              obtain ⟨go32, co32, eo32, gb32, gl32, cl32, HG32⟩ := Kd.R_form HO_8.out (by omega)
                              (first | cases eo32 | (injection eo32 with ea_ en_ ec_; (first | subst ea_ | (injection ea_ with ea_; subst ea_)); subst ec_; clear en_))
                              have GB32 := Aside0.mk gb32
                              have GG32 := Aside0.mk HG32
                              clear gb32 gl32 HG32
                              (first | simp only [add_plain] at hx124_0 | skip)
                              obtain ⟨hx32_0, hf32_0⟩ := Kd.R_celln 0 HO_8.out ((rd y120 x53_1) : Int) p32 q32
                              replace p32 := eq_true p32
                              replace q32 := eq_true q32
                              have HP33 := Kd.R_putg HO_8.out ((rd y120 x53_1) : Int) (wrap64 ((rd x8_1 (rd y120 x53_1)) + 1))
                              go_wp2_with (first | ((with_reducible refine gate_store (t := 3) (p := 62) rfl ?_); refine store_event (t := 3) (p := 62) (v := ?vo_w34) (w1 := (wr.setCell ⟨go32, ((rd y120 x53_1) : Int).toNat, none⟩ (.int .i64 (wrap64 ((rd x8_1 (rd y120 x53_1)) + 1))))) ?hg ?ho ?hn ?hr ?_; (case ho => rfl); (case hg => rfl); (case hn => rfl); (case hr => first | (go_simp; done) | (go_simp; rfl)); intro w34 hw; have hg : wr.grownBy w34 (some go32) := (by rw [hw]; exact HP33.2); have hp_ : Kd.R (Kd.int .i64) 3 w34 w.heap.size (fun k_ => some k_ ≠ (.slice (some ad123) y120.length co25 : Value).ownBlock ∧ some k_ ≠ (.slice Ao21 t109.length co21 : Value).ownBlock) (.slice (some ⟨go32, 0, none⟩) x8_1.length co23) y125 := (by rw [hw, Ny125.out]; exact HP33.1); clear HP33; have n0_ := Aside0.mk (hp_); have n1_ := Aside0.mk (Kd.R_after (v := (.slice (some ⟨go32, 0, none⟩) x8_1.length co23)) (v1 := (.slice (some ⟨go32, 0, none⟩) x8_1.length co23)) (ok := (fun k_ => some k_ ≠ (.slice Ao21 t109.length co21 : Value).ownBlock)) (by (with_reducible repeat (first | apply Kd.R_alloc | apply Kd.R_drewN | apply Kd.R_drew)); exact Kd.R_mono HO_51.out (fun _ hk => ⟨hk.2, hk.1⟩)) hg (.inl rfl)); have n2_ := Aside0.mk (Kd.R_after (v := (.slice (some ⟨go32, 0, none⟩) x8_1.length co23)) (v1 := (.slice (some ⟨go32, 0, none⟩) x8_1.length co23)) (ok := (fun k_ => some k_ ≠ (.slice (some ad123) y120.length co25 : Value).ownBlock)) (by (with_reducible repeat (first | apply Kd.R_alloc | apply Kd.R_drewN | apply Kd.R_drew)); exact Kd.R_mono HO_117000.out (fun _ hk => ⟨hk.2, hk.1⟩)) hg (.inl rfl)); have n3_ := Aside0.mk (blk_grown (g := gb116) (o := .cells #[.slice Ao21 t109.length co21] 22 (0, 0)) (by (with_reducible repeat (first | refine blk_drewN ?_ _ | refine blk_drew ?_ | refine blk_alloc ?_ _)); exact BK116.out) hg (Kd.R_ne HO_8.out BK116.out (by decide))); have n4_ := Aside0.mk ((by rw [hw]; exact below_set (HB.out) GB32.out : Below w.heap.size w w34)); clear HO_8; clear HO_51; clear HO_117000; clear BK116; clear HB; have HO_8 := n0_; have HO_51 := n1_; have HO_117000 := n2_; have BK116 := n3_; have HB := n4_; clear n0_ n1_ n2_ n3_ n4_; clear hg hw hp_))
                              (try simp only [← hl8_1])
                              go_roundg k1
                              case measure => have := HK1.out; omega
                              case rel => exact ⟨(y125), (wrap64 (x53_1 + 1)), (by first | rfl | (simp; done) | (simp [*]; done)), H', ⟨by have := HK1.out; omega⟩, ⟨by (try simp only [hl8_1]); (with_reducible repeat (first | apply Kd.R_alloc | apply Kd.R_drewN | apply Kd.R_drew)); exact HO_8.out⟩, ⟨by (try simp only [hl8_1]); (with_reducible repeat (first | apply Kd.R_alloc | apply Kd.R_drewN | apply Kd.R_drew)); exact Kd.R_mono HO_51.out (fun _ hk => ⟨hk.2, hk.1⟩)⟩, ⟨by (try simp only [hl8_1]); (with_reducible repeat (first | apply Kd.R_alloc | apply Kd.R_drewN | apply Kd.R_drew)); exact Kd.R_mono HO_117000.out (fun _ hk => ⟨hk.2, hk.1⟩)⟩, ⟨by (try simp only [hl8_1]); (with_reducible repeat (first | refine blk_drewN ?_ _ | refine blk_drew ?_ | refine blk_alloc ?_ _)); exact BK116.out⟩, ⟨by repeat (first | (with_reducible first | exact HB.out | apply below_alloc | apply pw_below_drewN | apply below_drew1 | refine below_set ?_ GE116.out) | exact HB.out)⟩⟩
                            · rw [if_neg c31] at H
                              exact absurd H (by simp)
                          · rw [if_neg c30] at H
                            exact absurd H (by simp)
                        · rw [if_neg c29] at H
                          exact absurd H (by simp)
                      · rw [if_neg c28] at H
                        exact absurd H (by simp)
                    · rw [if_neg c27] at H
                      have c27b0 : decide (x53_1 < (y120.length : Int)) = false := decide_eq_false c27
                      clear c27
                      simp only [Option.some.injEq, Prod.mk.injEq] at H
                      obtain ⟨rfl, rfl⟩ := H
                      go_wp2
                      go_ret2
                      exact ⟨_, by first | rfl | (simp [errW_none, errW_some] <;> rfl) | (simp [*, errW_none, errW_some] <;> rfl), by (with_reducible repeat (first | apply Kd.R_alloc | apply Kd.R_drewN | apply Kd.R_drew)); exact Kd.R_mono HO_8.out (fun _ hk => trivial), by repeat (first | (with_reducible first | exact HB.out | apply below_alloc | apply pw_below_drewN | apply below_drew1 | refine below_set ?_ GE116.out) | exact HB.out)⟩
              · rw [if_neg c15] at H
                exact absurd H (by simp)
            · rw [if_neg c14] at H
              exact absurd H (by simp)
          · rw [if_neg c12] at H
            have c12b0 : (t111 == 0) = false := beq_eq_false_iff_ne.mpr c12
            have c12b1 : (t111 != 0) = true := bne_iff_ne.mpr c12
            simp only [Option.some.injEq, Prod.mk.injEq] at H
            obtain ⟨rfl, rfl⟩ := H
            go_enter Try.func51, Try.ntmps51
            go_wp2_with (first | ((with_reducible refine gate_callee (f := 57) rfl ?_); refine goesL_ (some 15) rfl rfl Try.func57 (by kernel_rfl) rfl #[.slice A1 l1.length c1] rfl (by (try simp only [List.map_toArray, List.map_cons, List.map_nil]); first | done | rfl | (simp only [List.length_drop, List.length_take]; rfl)) ?_; (with_reducible refine (share_Whole.calls k _ _ l1 t101 t102 _ ?side1 ?side2 A3.out).mono ?_); (case side1 => repeat (first | exact HR1.out | (with_reducible refine Kd.C_alloc ?_ _) | (with_reducible refine Kd.C_drewN ?_ _) | (with_reducible refine Kd.C_drew ?_))); (case side2 => exact HC1.out); rintro e w' ⟨rfl, ⟨nd, rfl⟩⟩; refine ⟨_, rfl, ?_⟩) | (go_at_call 31; (with_reducible refine (cents_In.calls a0 true _ A6.out).mono ?_); rintro e w' ⟨rfl, ⟨nd, rfl⟩⟩) | ((with_reducible refine gate_callee (f := 105) rfl ?_); refine goesL_ (some 29) rfl rfl Try.func105 (by kernel_rfl) rfl #[.slice A1 l1.length c1] rfl (by (try simp only [List.map_toArray, List.map_cons, List.map_nil]); first | done | rfl | (simp only [List.length_drop, List.length_take]; rfl)) ?_; (with_reducible refine (slices_Max_int_int.calls k _ _ l1 t104 _ ?side1 ?side2 A8.out).mono ?_); (case side1 => repeat (first | exact HR1.out | (with_reducible refine Kd.C_alloc ?_ _) | (with_reducible refine Kd.C_drewN ?_ _) | (with_reducible refine Kd.C_drew ?_))); (case side2 => exact HC1.out); rintro e w35 ⟨rfl, hb⟩; refine ⟨_, rfl, ?_⟩; have n0_ := Aside0.mk (below_step (by repeat (first | (with_reducible first | exact HB.out | apply below_alloc | apply pw_below_drewN | apply below_drew1) | exact HB.out)) hb); clear HB; have HB := n0_; clear n0_; (try clear hb); (try clear hb2); (try clear hk); (try clear hi)) | ((with_reducible refine gate_callee (f := 106) rfl ?_); refine goesL_ (some 33) rfl rfl Try.func106 (by kernel_rfl) rfl #[.int .i64 (l1.length : Int)] rfl (by (try simp only [List.map_toArray, List.map_cons, List.map_nil]); first | done | rfl | (simp only [List.length_drop, List.length_take]; rfl)) ?_; (with_reducible refine (share_even.calls k (l1.length : Int) t105 _ A10.out).mono ?_); rintro e w36 ⟨v106, rfl, ho0, hb⟩; refine ⟨_, rfl, ?_⟩; have n0_ := Aside0.mk (Kd.R_lower ho0 (below_size (by repeat (first | (with_reducible first | exact HB.out | apply below_alloc | apply pw_below_drewN | apply below_drew1) | exact HB.out)))); have n1_ := Aside0.mk (below_step (by repeat (first | (with_reducible first | exact HB.out | apply below_alloc | apply pw_below_drewN | apply below_drew1) | exact HB.out)) hb); clear HB; have HO107 := n0_; have HB := n1_; clear n0_ n1_; (try clear hb); (try clear hb2); (try clear hk); (try clear hi); (try clear ho0); obtain ⟨Ao37, co37, eo37⟩ := Kd.R_slice HO107.out; subst eo37) | ((with_reducible refine gate_callee (f := 107) rfl ?_); refine goesL_ (some 38) rfl rfl Try.func107 (by kernel_rfl) rfl #[.int .i64 a0, .int .i64 t101, .slice Ao37 t105.length co37] rfl (by (try simp only [List.map_toArray, List.map_cons, List.map_nil]); first | done | rfl | (simp only [List.length_drop, List.length_take]; rfl)) ?_; (with_reducible refine (share_parts.calls k a0 t101 _ _ t105 t108 t109 t110 t111 _ ?side1 ?side2 A11.out).mono ?_); (case side1 => repeat (first | exact (Kd.R_reads' HO107.out).2.2 | (with_reducible refine Kd.C_alloc ?_ _) | (with_reducible refine Kd.C_drewN ?_ _) | (with_reducible refine Kd.C_drew ?_))); (case side2 => exact (Kd.R_reads' HO107.out).2.1); rintro e w38 ⟨v112, v114, rfl, ho0, ho1, hb⟩; refine ⟨_, rfl, ?_⟩; have n0_ := Aside0.mk (Kd.R_mono (Kd.R_told (Kd.R_told (Kd.R_old (by (with_reducible repeat (first | apply Kd.R_alloc | apply Kd.R_drewN | apply Kd.R_drew)); exact HO107.out) hb) (Kd.R_base ho0)) (Kd.R_base ho1)) (fun _ h_ => h_.1)); have n1_ := Aside0.mk (Kd.R_lower (Kd.R_new' ho0 (Kd.R_lt (by (with_reducible repeat (first | apply Kd.R_alloc | apply Kd.R_drewN | apply Kd.R_drew)); exact HO107.out))) (below_size (by repeat (first | (with_reducible first | exact HB.out | apply below_alloc | apply pw_below_drewN | apply below_drew1) | exact HB.out)))); have n2_ := Aside0.mk (Kd.R_lower (Kd.R_new' ho1 (Kd.R_lt (by (with_reducible repeat (first | apply Kd.R_alloc | apply Kd.R_drewN | apply Kd.R_drew)); exact HO107.out))) (below_size (by repeat (first | (with_reducible first | exact HB.out | apply below_alloc | apply pw_below_drewN | apply below_drew1) | exact HB.out)))); have n3_ := Aside0.mk (below_step (by repeat (first | (with_reducible first | exact HB.out | apply below_alloc | apply pw_below_drewN | apply below_drew1) | exact HB.out)) hb); clear HO107; clear HB; have HO107 := n0_; have HO113 := n1_; have HO115 := n2_; have HB := n3_; clear n0_ n1_ n2_ n3_; (try clear hb); (try clear hb2); (try clear hk); (try clear hi); (try clear ho0); (try clear ho1)) | ((with_reducible refine gate_dst (N := 9) rfl ?_); refine box_event ?hg (N := 9) ?hd (cs := #[.slice none 0 0]) (t := 22) ?hr ?_; (case hd => rfl); (case hg => rfl); (case hr => first | (go_simp; done) | (go_simp; rfl)); intro gb116 hg w39 hbox hb; have n0_ := Aside0.mk (Kd.R_below (by (with_reducible repeat (first | apply Kd.R_alloc | apply Kd.R_drewN | apply Kd.R_drew)); exact HO107.out) hb); have n1_ := Aside0.mk (Kd.R_below (by (with_reducible repeat (first | apply Kd.R_alloc | apply Kd.R_drewN | apply Kd.R_drew)); exact HO113.out) hb); have n2_ := Aside0.mk (Kd.R_below (by (with_reducible repeat (first | apply Kd.R_alloc | apply Kd.R_drewN | apply Kd.R_drew)); exact HO115.out) hb); have n3_ := Aside0.mk (below_step (by repeat (first | (with_reducible first | exact HB.out | apply below_alloc | apply pw_below_drewN | apply below_drew1) | exact HB.out)) hb); have n4_ := Aside0.mk (hbox); have n5_ := Aside0.mk ((by rw [hg]; exact (below_size (by repeat (first | (with_reducible first | exact HB.out | apply below_alloc | apply pw_below_drewN | apply below_drew1) | exact HB.out))) : w.heap.size ≤ gb116)); have n6_ := Aside0.mk ((by rw [hg]; exact (below_size (by repeat (first | (with_reducible first | exact HB.out | apply below_alloc | apply pw_below_drewN | apply below_drew1) | exact HB.out))) : w.heap.size ≤ gb116)); clear HO107; clear HO113; clear HO115; clear HB; have HO107 := n0_; have HO113 := n1_; have HO115 := n2_; have HB := n3_; have BK116 := n4_; have GW116 := n5_; have GE116 := n6_; clear n0_ n1_ n2_ n3_ n4_ n5_ n6_; clear hb hbox hg; obtain ⟨Ao40, co40, eo40⟩ := Kd.R_slice HO115.out; subst eo40; have hcz41_0 : w39.cell? ⟨gb116, 0, none⟩ = some (.slice none 0 0) := (blk_cell BK116.out 0).trans rfl; have hfz41_0 := blk_frozen BK116.out 0))
            go_ret2
            exact ⟨_, by first | rfl | (simp [errW_none, errW_some] <;> rfl) | (simp [*, errW_none, errW_some] <;> rfl), by first | exact Kd.R_nil _ _ _ _ _ | exact Kd.N_nil _ _ _ _ _ | exact Kd.V_nil _ _ _ _ _ | exact Kd.Q_nil _ _ _ _ _ | exact Kd.S_nil _ _ _ _ _, by repeat (first | (with_reducible first | exact HB.out | apply below_alloc | apply pw_below_drewN | apply below_drew1 | refine below_set ?_ GE116.out) | exact HB.out)⟩
        · rw [if_neg c9] at H
          have c9b0 : (t104 == 0) = false := beq_eq_false_iff_ne.mpr c9
          have c9b1 : (t104 != 0) = true := bne_iff_ne.mpr c9
          replace H := Option.bind_eq_some_iff.mp H
          obtain ⟨⟨t126, t127, t128, t129⟩, A420, H⟩ := H
          replace H : (if t129 = 0 then ((share_by_share_Out_1_v22.f (t126.length : Int) t127).bind fun t135 => (if 0 ≤ t128 then (if t128 ≤ (t135.length : Int) then ((some (t135.take (t128 : Int).toNat : List Int)).bind fun y138 => (share_Out.l0 k t126 y138 (y138.length : Int) 0)) else (none)) else (none))) else (some (([] : List Int), t129))) = some (r1, r2) := H
          have A42 := Aside0.mk A420
          clear A420
          by_cases c43 : t129 = 0
          · rw [if_pos c43] at H
            have c43b0 : (t129 == 0) = true := beq_iff_eq.mpr c43
            have c43b1 : (t129 != 0) = false := bne_eq_false_iff_eq.mpr c43
            clear c43
            replace H := Option.bind_eq_some_iff.mp H
            obtain ⟨t135, A440, H⟩ := H
            replace H : (if 0 ≤ t128 then (if t128 ≤ (t135.length : Int) then ((some (t135.take (t128 : Int).toNat : List Int)).bind fun y138 => (share_Out.l0 k t126 y138 (y138.length : Int) 0)) else (none)) else (none)) = some (r1, r2) := H
            have A44 := Aside0.mk A440
            clear A440
            by_cases c45 : 0 ≤ t128
            · rw [if_pos c45] at H
              have c45b0 := eq_true c45
              have c45b1 : decide (0 ≤ t128) = true := decide_eq_true c45
              clear c45
              by_cases c46 : t128 ≤ (t135.length : Int)
              · rw [if_pos c46] at H
                have c46b0 := eq_true c46
                have c46b1 : decide (t128 ≤ (t135.length : Int)) = true := decide_eq_true c46
                clear c46
                obtain ⟨y138, hy138⟩ : ∃ y_ : List Int, y_ = (t135.take (t128 : Int).toNat) := ⟨_, rfl⟩
                replace H : (share_Out.l0 k t126 y138 (y138.length : Int) 0) = some (r1, r2) := by first | (rw [hy138]; with_reducible exact H) | (have H2_ := (Option.bind_some _ _).symm.trans H; rw [hy138]; with_reducible exact H2_) | (have H2_ := (Option.bind_some _ _).symm.trans H; with_reducible exact H2_) | with_reducible exact H | (rw [hy138]; exact H) | exact H
                have Ny138 := Aside0.mk hy138
                clear hy138
                have H' := Aside0.mk H
                clear H
                go_enter Try.func51, Try.ntmps51
                go_wp2_with (first | ((with_reducible refine gate_callee (f := 57) rfl ?_); refine goesL_ (some 15) rfl rfl Try.func57 (by kernel_rfl) rfl #[.slice A1 l1.length c1] rfl (by (try simp only [List.map_toArray, List.map_cons, List.map_nil]); first | done | rfl | (simp only [List.length_drop, List.length_take]; rfl)) ?_; (with_reducible refine (share_Whole.calls k _ _ l1 t101 t102 _ ?side1 ?side2 A3.out).mono ?_); (case side1 => repeat (first | exact HR1.out | (with_reducible refine Kd.C_alloc ?_ _) | (with_reducible refine Kd.C_drewN ?_ _) | (with_reducible refine Kd.C_drew ?_))); (case side2 => exact HC1.out); rintro e w' ⟨rfl, ⟨nd, rfl⟩⟩; refine ⟨_, rfl, ?_⟩) | (go_at_call 31; (with_reducible refine (cents_In.calls a0 true _ A6.out).mono ?_); rintro e w' ⟨rfl, ⟨nd, rfl⟩⟩) | ((with_reducible refine gate_callee (f := 105) rfl ?_); refine goesL_ (some 29) rfl rfl Try.func105 (by kernel_rfl) rfl #[.slice A1 l1.length c1] rfl (by (try simp only [List.map_toArray, List.map_cons, List.map_nil]); first | done | rfl | (simp only [List.length_drop, List.length_take]; rfl)) ?_; (with_reducible refine (slices_Max_int_int.calls k _ _ l1 t104 _ ?side1 ?side2 A8.out).mono ?_); (case side1 => repeat (first | exact HR1.out | (with_reducible refine Kd.C_alloc ?_ _) | (with_reducible refine Kd.C_drewN ?_ _) | (with_reducible refine Kd.C_drew ?_))); (case side2 => exact HC1.out); rintro e w47 ⟨rfl, hb⟩; refine ⟨_, rfl, ?_⟩; have n0_ := Aside0.mk (below_step (by repeat (first | (with_reducible first | exact HB.out | apply below_alloc | apply pw_below_drewN | apply below_drew1) | exact HB.out)) hb); clear HB; have HB := n0_; clear n0_; (try clear hb); (try clear hb2); (try clear hk); (try clear hi)) | ((with_reducible refine gate_callee (f := 107) rfl ?_); refine goesL_ (some 38) rfl rfl Try.func107 (by kernel_rfl) rfl #[.int .i64 a0, .int .i64 t101, .slice A1 l1.length c1] rfl (by (try simp only [List.map_toArray, List.map_cons, List.map_nil]); first | done | rfl | (simp only [List.length_drop, List.length_take]; rfl)) ?_; (with_reducible refine (share_parts.calls k a0 t101 _ _ l1 t126 t127 t128 t129 _ ?side1 ?side2 A42.out).mono ?_); (case side1 => repeat (first | exact (Kd.C_below HR1.out HB.out) | (with_reducible refine Kd.C_alloc ?_ _) | (with_reducible refine Kd.C_drewN ?_ _) | (with_reducible refine Kd.C_drew ?_))); (case side2 => exact HC1.out); rintro e w48 ⟨v130, v132, rfl, ho0, ho1, hb⟩; refine ⟨_, rfl, ?_⟩; have n0_ := Aside0.mk (Kd.R_lower ho0 (below_size (by repeat (first | (with_reducible first | exact HB.out | apply below_alloc | apply pw_below_drewN | apply below_drew1) | exact HB.out)))); have n1_ := Aside0.mk (Kd.R_lower ho1 (below_size (by repeat (first | (with_reducible first | exact HB.out | apply below_alloc | apply pw_below_drewN | apply below_drew1) | exact HB.out)))); have n2_ := Aside0.mk (below_step (by repeat (first | (with_reducible first | exact HB.out | apply below_alloc | apply pw_below_drewN | apply below_drew1) | exact HB.out)) hb); clear HB; have HO131 := n0_; have HO133 := n1_; have HB := n2_; clear n0_ n1_ n2_; (try clear hb); (try clear hb2); (try clear hk); (try clear hi); (try clear ho0); (try clear ho1)) | ((with_reducible refine gate_dst (N := 9) rfl ?_); refine box_event ?hg (N := 9) ?hd (cs := #[.slice none 0 0]) (t := 22) ?hr ?_; (case hd => rfl); (case hg => rfl); (case hr => first | (go_simp; done) | (go_simp; rfl)); intro gb134 hg w49 hbox hb; have n0_ := Aside0.mk (Kd.R_below (by (with_reducible repeat (first | apply Kd.R_alloc | apply Kd.R_drewN | apply Kd.R_drew)); exact HO131.out) hb); have n1_ := Aside0.mk (Kd.R_below (by (with_reducible repeat (first | apply Kd.R_alloc | apply Kd.R_drewN | apply Kd.R_drew)); exact HO133.out) hb); have n2_ := Aside0.mk (below_step (by repeat (first | (with_reducible first | exact HB.out | apply below_alloc | apply pw_below_drewN | apply below_drew1) | exact HB.out)) hb); have n3_ := Aside0.mk (hbox); have n4_ := Aside0.mk ((by rw [hg]; exact (below_size (by repeat (first | (with_reducible first | exact HB.out | apply below_alloc | apply pw_below_drewN | apply below_drew1) | exact HB.out))) : w.heap.size ≤ gb134)); have n5_ := Aside0.mk ((by rw [hg]; exact (below_size (by repeat (first | (with_reducible first | exact HB.out | apply below_alloc | apply pw_below_drewN | apply below_drew1) | exact HB.out))) : w.heap.size ≤ gb134)); clear HO131; clear HO133; clear HB; have HO131 := n0_; have HO133 := n1_; have HB := n2_; have BK134 := n3_; have GW134 := n4_; have GE134 := n5_; clear n0_ n1_ n2_ n3_ n4_ n5_; clear hb hbox hg; obtain ⟨Ao50, co50, eo50⟩ := Kd.R_slice HO133.out; subst eo50; have hcz51_0 : w49.cell? ⟨gb134, 0, none⟩ = some (.slice none 0 0) := (blk_cell BK134.out 0).trans rfl; have hfz51_0 := blk_frozen BK134.out 0; obtain ⟨Ao52, co52, eo52⟩ := Kd.R_slice HO131.out; subst eo52) | (go_at_call 108; (with_reducible refine (share_by_share_Out_1_v22.calls (t126.length : Int) gb134 Ao50 co50 t127 t135 _ ?side1 ?side2 ?side3 A44.out).mono ?_); (case side1 => exact (by (with_reducible repeat (first | refine blk_drewN ?_ _ | refine blk_drew ?_ | refine blk_alloc ?_ _)); refine blk_put (cs := #[.slice none 0 0]) ?_ 0 _ rfl; (with_reducible repeat (first | refine blk_drewN ?_ _ | refine blk_drew ?_ | refine blk_alloc ?_ _)); exact BK134.out)); (case side2 => refine (Kd.R_reads' (e := 3) (base := w.heap.size) (ok := fun k_ => some k_ ≠ (.slice Ao52 t126.length co52 : Value).ownBlock) (n := t127.length) (c := co50) ?_).2.2; exact (by (with_reducible repeat (first | apply Kd.R_alloc | apply Kd.R_drewN | apply Kd.R_drew)); exact (Kd.R_mono (Kd.R_far (p := ⟨gb134, 0, none⟩) (Kd.R_types HO133.out BK134.out (by decide)) (fun _ hk => hk.2) (.slice Ao50 t127.length co50)) (fun _ h_ => h_.1)))); (case side3 => exact (Kd.R_reads' HO133.out).2.1); rintro e w53 ⟨v136, rfl, ho0, hb⟩; have n0_ := Aside0.mk (Kd.R_elder' (by (with_reducible repeat (first | apply Kd.R_alloc | apply Kd.R_drewN | apply Kd.R_drew)); exact (Kd.R_mono (Kd.R_far (p := ⟨gb134, 0, none⟩) (Kd.R_types HO131.out BK134.out (by decide)) (fun _ hk => hk.2) (.slice Ao50 t127.length co50)) (fun _ h_ => h_.1))) (Kd.R_base ho0) hb); have n1_ := Aside0.mk (Kd.R_elder' (by (with_reducible repeat (first | apply Kd.R_alloc | apply Kd.R_drewN | apply Kd.R_drew)); exact (Kd.R_mono (Kd.R_far (p := ⟨gb134, 0, none⟩) (Kd.R_types HO133.out BK134.out (by decide)) (fun _ hk => hk.2) (.slice Ao50 t127.length co50)) (fun _ h_ => h_.1))) (Kd.R_base ho0) hb); have n2_ := Aside0.mk (Kd.R_lower (Kd.R_new' (Kd.R_new' ho0 (Kd.R_lt (by (with_reducible repeat (first | apply Kd.R_alloc | apply Kd.R_drewN | apply Kd.R_drew)); exact (Kd.R_mono (Kd.R_far (p := ⟨gb134, 0, none⟩) (Kd.R_types HO131.out BK134.out (by decide)) (fun _ hk => hk.2) (.slice Ao50 t127.length co50)) (fun _ h_ => h_.1))))) (Kd.R_lt (by (with_reducible repeat (first | apply Kd.R_alloc | apply Kd.R_drewN | apply Kd.R_drew)); exact (Kd.R_mono (Kd.R_far (p := ⟨gb134, 0, none⟩) (Kd.R_types HO133.out BK134.out (by decide)) (fun _ hk => hk.2) (.slice Ao50 t127.length co50)) (fun _ h_ => h_.1))))) (below_size (by repeat (first | (with_reducible first | exact HB.out | apply below_alloc | apply pw_below_drewN | apply below_drew1 | refine below_set ?_ GE134.out) | exact HB.out)))); have n3_ := Aside0.mk (blk_below (g := gb134) (o := .cells #[.slice Ao50 t127.length co50] 22 (0, 0)) (by (with_reducible repeat (first | refine blk_drewN ?_ _ | refine blk_drew ?_ | refine blk_alloc ?_ _)); refine blk_put (cs := #[.slice none 0 0]) ?_ 0 _ rfl; (with_reducible repeat (first | refine blk_drewN ?_ _ | refine blk_drew ?_ | refine blk_alloc ?_ _)); exact BK134.out) hb); have n4_ := Aside0.mk (below_step (by repeat (first | (with_reducible first | exact HB.out | apply below_alloc | apply pw_below_drewN | apply below_drew1 | refine below_set ?_ GE134.out) | exact HB.out)) hb); clear HO131; clear HO133; clear BK134; clear HB; have HO131 := n0_; have HO133 := n1_; have HO137 := n2_; have BK134 := n3_; have HB := n4_; clear n0_ n1_ n2_ n3_ n4_; (try clear hb); (try clear hb2); (try clear hk); (try clear hi); (try clear ho0); obtain ⟨Ao54, co54, eo54⟩ := Kd.R_slice HO137.out; subst eo54; have q55 : (t128 : Int) ≤ ((t135.length : Int) : Int) := of_decide_eq_true (by first | (with_reducible assumption) | assumption); obtain ⟨i055, hi055, _, hsz55, _⟩ := info_parts info3; have hcut55 := cut_to (P := Try.prog) 22 3 .i64 Try.underlying22 hi055 Ao54 t135.length co54 t128 (of_decide_eq_true (by first | (with_reducible assumption) | assumption)) q55 (Kd.R_reads' HO137.out).2.1; have hr55 := Kd.R_take (m := (t128 : Int).toNat) HO137.out (by omega); have hy55 : y138.length = (t128 : Int).toNat := (by rw [Ny138.out, List.length_take]; omega); rw [← Ny138.out] at hr55; rw [← hy55] at hr55 hcut55; clear hy55 hi055 hsz55 HO137; have HO140 := Aside0.mk hr55; clear hr55; replace q55 := eq_true q55))
                go_loopg [53] k (fun kq v53 w' => ∃ (x8_1 : List Int) (x53_1 : Int), v53 = .int .i64 x53_1 ∧ Aside0 (share_Out.l0 kq x8_1 y138 (y138.length : Int) x53_1 = some (r1, r2)) ∧ Aside0 (kq ≤ k) ∧ Aside0 (Kd.R (Kd.int .i64) 3 w' w.heap.size (fun k_ => some k_ ≠ ((.slice Ao54 y138.length co54) : Value).ownBlock) (.slice Ao52 t126.length co52) x8_1) ∧ Aside0 (Kd.R (Kd.int .i64) 3 w' w.heap.size (fun k_ => some k_ ≠ ((.slice Ao52 t126.length co52) : Value).ownBlock) (.slice Ao54 y138.length co54) y138) ∧ Aside0 (Below w.heap.size w w'))
                case atStart => exact ⟨(t126), (0), (by first | rfl | (simp; done) | (simp [*]; done)), H', ⟨Nat.le_refl _⟩, ⟨by (with_reducible repeat (first | apply Kd.R_alloc | apply Kd.R_drewN | apply Kd.R_drew)); exact Kd.R_mono HO131.out (fun _ hk => own_len hk.2)⟩, ⟨by (with_reducible repeat (first | apply Kd.R_alloc | apply Kd.R_drewN | apply Kd.R_drew)); exact Kd.R_mono HO140.out (fun _ hk => hk.1.2)⟩, ⟨by repeat (first | (with_reducible first | exact HB.out | apply below_alloc | apply pw_below_drewN | apply below_drew1 | refine below_set ?_ GE134.out) | exact HB.out)⟩⟩
                case round =>
                  clear H'
                  try clear c1
                  try clear p1
                  try clear q1
                  try clear hx1
                  try clear c2
                  try clear p2
                  try clear q2
                  try clear c3
                  try clear p3
                  try clear q3
                  try clear hx3
                  try clear hf3
                  try clear c4
                  try clear c4b0
                  try clear c4b1
                  try clear c5
                  try clear c5b0
                  try clear q5
                  try clear p6
                  try clear c7
                  try clear c9
                  try clear c9b0
                  try clear c9b1
                  try clear c10
                  try clear c12
                  try clear c12b0
                  try clear c12b1
                  try clear p12
                  try clear q12
                  try clear hx12
                  try clear c14
                  try clear c14b0
                  try clear c14b1
                  try clear c15
                  try clear c15b0
                  try clear c15b1
                  try clear q26
                  try clear c27
                  try clear c27b0
                  try clear c28
                  try clear c28b0
                  try clear c29
                  try clear c29b0
                  try clear c30
                  try clear c30b0
                  try clear c31
                  try clear c31b0
                  try clear p32
                  try clear q32
                  try clear hx32
                  try clear hf32
                  try clear c43
                  try clear c43b0
                  try clear c43b1
                  try clear c45
                  try clear c45b0
                  try clear c45b1
                  try clear c46
                  try clear c46b0
                  try clear c46b1
                  try clear c51
                  try clear q55
                  try clear hcz22_0
                  try clear hcz41_0
                  try clear hcz51_0
                  try clear hfz22_0
                  try clear hfz41_0
                  try clear hfz51_0
                  try clear hx123_0
                  try clear hx124_0
                  try clear hx32_0
                  try clear p123
                  try clear p124
                  try clear p2
                  try clear p32
                  try clear q123
                  try clear q124
                  try clear q2
                  try clear q26
                  try clear q32
                  try clear q55
                  obtain ⟨x8_1, x53_1, rfl, HA, HK1, HO_8, HO_51, HB⟩ := hrel
                  have hl8_1 := (Kd.R_reads' HO_8.out).1
                  rw [hl8_1] at HO_8
                  (try simp only [hl8_1])
                  (try simp only [hl8_1] at HO_51)
                  cases gk with
                  | zero => exact absurd HA.out (by simp [share_Out.l0])
                  | succ k1 =>
                    have H := HA.out
                    clear HA
                    simp only [share_Out.l0] at H
                    by_cases c56 : x53_1 < (y138.length : Int)
                    · rw [if_pos c56] at H
                      have c56b0 : decide (x53_1 < (y138.length : Int)) = true := decide_eq_true c56
                      clear c56
                      by_cases c57 : 0 ≤ x53_1
                      · rw [if_pos c57] at H
                        have c57b0 : decide (0 ≤ x53_1) = true := decide_eq_true c57
                        clear c57
                        by_cases c58 : x53_1 < (y138.length : Int)
                        · rw [if_pos c58] at H
                          have c58b0 : decide (x53_1 < (y138.length : Int)) = true := decide_eq_true c58
                          clear c58
                          by_cases c59 : 0 ≤ (rd y138 x53_1)
                          · rw [if_pos c59] at H
                            have c59b0 : decide (0 ≤ (rd y138 x53_1)) = true := decide_eq_true c59
                            clear c59
                            by_cases c60 : (rd y138 x53_1) < (x8_1.length : Int)
                            · rw [if_pos c60] at H
                              have c60b0 : decide ((rd y138 x53_1) < (x8_1.length : Int)) = true := decide_eq_true c60
                              clear c60
                              obtain ⟨y125, hy125⟩ : ∃ y_ : List Int, y_ = (x8_1.set ((rd y138 x53_1) : Int).toNat (wrap64 ((rd x8_1 (rd y138 x53_1)) + 1))) := ⟨_, rfl⟩
                              replace H : (share_Out.l0 k1 y125 y138 (y138.length : Int) (wrap64 (x53_1 + 1))) = some (r1, r2) := by first | (rw [hy125]; with_reducible exact H) | (have H2_ := (Option.bind_some _ _).symm.trans H; rw [hy125]; with_reducible exact H2_) | (have H2_ := (Option.bind_some _ _).symm.trans H; with_reducible exact H2_) | with_reducible exact H | (rw [hy125]; exact H) | exact H
                              have Ny125 := Aside0.mk hy125
                              clear hy125
                              have H' := Aside0.mk H
                              clear H
                              have p123 : 0 ≤ (x53_1 : Int) := of_decide_eq_true (by first | (with_reducible assumption) | assumption)
                              have q123 : x53_1 < (y138.length : Int) := of_decide_eq_true (by first | (with_reducible assumption) | assumption)
                              obtain ⟨ad123, e123, hx123_0⟩ := Kd.at_int (Kd.R_reads' HO_51.out).2.2 x53_1 p123 q123
                              cases e123
                              replace p123 := eq_true p123
                              replace q123 := eq_true q123
                              have p124 : 0 ≤ ((rd y138 x53_1) : Int) := of_decide_eq_true (by first | (with_reducible assumption) | assumption)
                              have q124 : (rd y138 x53_1) < (x8_1.length : Int) := of_decide_eq_true (by first | (with_reducible assumption) | assumption)
                              obtain ⟨ad124, e124, hx124_0⟩ := Kd.at_int (Kd.R_reads' HO_8.out).2.2 (rd y138 x53_1) p124 q124
                              cases e124
                              replace p124 := eq_true p124
                              replace q124 := eq_true q124
                              have p61 : 0 ≤ ((rd y138 x53_1) : Int) := of_decide_eq_true (by first | (with_reducible assumption) | assumption)
                              have q61 : ((rd y138 x53_1) : Int) < ((x8_1.length : Int) : Int) := of_decide_eq_true (by first | (with_reducible assumption) | assumption)
                              obtain ⟨go61, co61, eo61, gb61, gl61, cl61, HG61⟩ := Kd.R_form HO_8.out (by omega)
                              (first | cases eo61 | (injection eo61 with ea_ en_ ec_; (first | subst ea_ | (injection ea_ with ea_; subst ea_)); subst ec_; clear en_))
                              have GB61 := Aside0.mk gb61
                              have GG61 := Aside0.mk HG61
                              clear gb61 gl61 HG61
                              (first | simp only [add_plain] at hx124_0 | skip)
                              obtain ⟨hx61_0, hf61_0⟩ := Kd.R_celln 0 HO_8.out ((rd y138 x53_1) : Int) p61 q61
                              replace p61 := eq_true p61
                              replace q61 := eq_true q61
                              have HP62 := Kd.R_putg HO_8.out ((rd y138 x53_1) : Int) (wrap64 ((rd x8_1 (rd y138 x53_1)) + 1))
                              go_wp2_with (first | ((with_reducible refine gate_store (t := 3) (p := 62) rfl ?_); refine store_event (t := 3) (p := 62) (v := ?vo_w63) (w1 := (wr.setCell ⟨go61, ((rd y138 x53_1) : Int).toNat, none⟩ (.int .i64 (wrap64 ((rd x8_1 (rd y138 x53_1)) + 1))))) ?hg ?ho ?hn ?hr ?_; (case ho => rfl); (case hg => rfl); (case hn => rfl); (case hr => first | (go_simp; done) | (go_simp; rfl)); intro w63 hw; have hg : wr.grownBy w63 (some go61) := (by rw [hw]; exact HP62.2); have hp_ : Kd.R (Kd.int .i64) 3 w63 w.heap.size (fun k_ => some k_ ≠ (.slice (some ad123) y138.length co54 : Value).ownBlock) (.slice (some ⟨go61, 0, none⟩) x8_1.length co52) y125 := (by rw [hw, Ny125.out]; exact HP62.1); clear HP62; have n0_ := Aside0.mk (hp_); have n1_ := Aside0.mk (Kd.R_after (v := (.slice (some ⟨go61, 0, none⟩) x8_1.length co52)) (v1 := (.slice (some ⟨go61, 0, none⟩) x8_1.length co52)) (ok := (fun _ => True)) (by (with_reducible repeat (first | apply Kd.R_alloc | apply Kd.R_drewN | apply Kd.R_drew)); exact Kd.R_mono HO_51.out (fun _ hk => ⟨trivial, hk⟩)) hg (.inl rfl)); have n2_ := Aside0.mk ((by rw [hw]; exact below_set (HB.out) GB61.out : Below w.heap.size w w63)); clear HO_8; clear HO_51; clear HB; have HO_8 := n0_; have HO_51 := n1_; have HB := n2_; clear n0_ n1_ n2_; clear hg hw hp_))
                              (try simp only [← hl8_1])
                              go_roundg k1
                              case measure => have := HK1.out; omega
                              case rel => exact ⟨(y125), (wrap64 (x53_1 + 1)), (by first | rfl | (simp; done) | (simp [*]; done)), H', ⟨by have := HK1.out; omega⟩, ⟨by (try simp only [hl8_1]); (with_reducible repeat (first | apply Kd.R_alloc | apply Kd.R_drewN | apply Kd.R_drew)); exact HO_8.out⟩, ⟨by (try simp only [hl8_1]); (with_reducible repeat (first | apply Kd.R_alloc | apply Kd.R_drewN | apply Kd.R_drew)); exact Kd.R_mono HO_51.out (fun _ hk => hk.2)⟩, ⟨by repeat (first | (with_reducible first | exact HB.out | apply below_alloc | apply pw_below_drewN | apply below_drew1) | exact HB.out)⟩⟩
                            · rw [if_neg c60] at H
                              exact absurd H (by simp)
                          · rw [if_neg c59] at H
                            exact absurd H (by simp)
                        · rw [if_neg c58] at H
                          exact absurd H (by simp)
                      · rw [if_neg c57] at H
                        exact absurd H (by simp)
                    · rw [if_neg c56] at H
                      have c56b0 : decide (x53_1 < (y138.length : Int)) = false := decide_eq_false c56
                      clear c56
                      simp only [Option.some.injEq, Prod.mk.injEq] at H
                      obtain ⟨rfl, rfl⟩ := H
                      go_wp2
                      go_ret2
                      exact ⟨_, by first | rfl | (simp [errW_none, errW_some] <;> rfl) | (simp [*, errW_none, errW_some] <;> rfl), by (with_reducible repeat (first | apply Kd.R_alloc | apply Kd.R_drewN | apply Kd.R_drew)); exact Kd.R_mono HO_8.out (fun _ hk => trivial), by repeat (first | (with_reducible first | exact HB.out | apply below_alloc | apply pw_below_drewN | apply below_drew1) | exact HB.out)⟩
              · rw [if_neg c46] at H
                exact absurd H (by simp)
            · rw [if_neg c45] at H
              exact absurd H (by simp)
          · rw [if_neg c43] at H
            have c43b0 : (t129 == 0) = false := beq_eq_false_iff_ne.mpr c43
            have c43b1 : (t129 != 0) = true := bne_iff_ne.mpr c43
            simp only [Option.some.injEq, Prod.mk.injEq] at H
            obtain ⟨rfl, rfl⟩ := H
            go_enter Try.func51, Try.ntmps51
            go_wp2_with (first | ((with_reducible refine gate_callee (f := 57) rfl ?_); refine goesL_ (some 15) rfl rfl Try.func57 (by kernel_rfl) rfl #[.slice A1 l1.length c1] rfl (by (try simp only [List.map_toArray, List.map_cons, List.map_nil]); first | done | rfl | (simp only [List.length_drop, List.length_take]; rfl)) ?_; (with_reducible refine (share_Whole.calls k _ _ l1 t101 t102 _ ?side1 ?side2 A3.out).mono ?_); (case side1 => repeat (first | exact HR1.out | (with_reducible refine Kd.C_alloc ?_ _) | (with_reducible refine Kd.C_drewN ?_ _) | (with_reducible refine Kd.C_drew ?_))); (case side2 => exact HC1.out); rintro e w' ⟨rfl, ⟨nd, rfl⟩⟩; refine ⟨_, rfl, ?_⟩) | (go_at_call 31; (with_reducible refine (cents_In.calls a0 true _ A6.out).mono ?_); rintro e w' ⟨rfl, ⟨nd, rfl⟩⟩) | ((with_reducible refine gate_callee (f := 105) rfl ?_); refine goesL_ (some 29) rfl rfl Try.func105 (by kernel_rfl) rfl #[.slice A1 l1.length c1] rfl (by (try simp only [List.map_toArray, List.map_cons, List.map_nil]); first | done | rfl | (simp only [List.length_drop, List.length_take]; rfl)) ?_; (with_reducible refine (slices_Max_int_int.calls k _ _ l1 t104 _ ?side1 ?side2 A8.out).mono ?_); (case side1 => repeat (first | exact HR1.out | (with_reducible refine Kd.C_alloc ?_ _) | (with_reducible refine Kd.C_drewN ?_ _) | (with_reducible refine Kd.C_drew ?_))); (case side2 => exact HC1.out); rintro e w64 ⟨rfl, hb⟩; refine ⟨_, rfl, ?_⟩; have n0_ := Aside0.mk (below_step (by repeat (first | (with_reducible first | exact HB.out | apply below_alloc | apply pw_below_drewN | apply below_drew1) | exact HB.out)) hb); clear HB; have HB := n0_; clear n0_; (try clear hb); (try clear hb2); (try clear hk); (try clear hi)) | ((with_reducible refine gate_callee (f := 107) rfl ?_); refine goesL_ (some 38) rfl rfl Try.func107 (by kernel_rfl) rfl #[.int .i64 a0, .int .i64 t101, .slice A1 l1.length c1] rfl (by (try simp only [List.map_toArray, List.map_cons, List.map_nil]); first | done | rfl | (simp only [List.length_drop, List.length_take]; rfl)) ?_; (with_reducible refine (share_parts.calls k a0 t101 _ _ l1 t126 t127 t128 t129 _ ?side1 ?side2 A42.out).mono ?_); (case side1 => repeat (first | exact (Kd.C_below HR1.out HB.out) | (with_reducible refine Kd.C_alloc ?_ _) | (with_reducible refine Kd.C_drewN ?_ _) | (with_reducible refine Kd.C_drew ?_))); (case side2 => exact HC1.out); rintro e w65 ⟨v130, v132, rfl, ho0, ho1, hb⟩; refine ⟨_, rfl, ?_⟩; have n0_ := Aside0.mk (Kd.R_lower ho0 (below_size (by repeat (first | (with_reducible first | exact HB.out | apply below_alloc | apply pw_below_drewN | apply below_drew1) | exact HB.out)))); have n1_ := Aside0.mk (Kd.R_lower ho1 (below_size (by repeat (first | (with_reducible first | exact HB.out | apply below_alloc | apply pw_below_drewN | apply below_drew1) | exact HB.out)))); have n2_ := Aside0.mk (below_step (by repeat (first | (with_reducible first | exact HB.out | apply below_alloc | apply pw_below_drewN | apply below_drew1) | exact HB.out)) hb); clear HB; have HO131 := n0_; have HO133 := n1_; have HB := n2_; clear n0_ n1_ n2_; (try clear hb); (try clear hb2); (try clear hk); (try clear hi); (try clear ho0); (try clear ho1)) | ((with_reducible refine gate_dst (N := 9) rfl ?_); refine box_event ?hg (N := 9) ?hd (cs := #[.slice none 0 0]) (t := 22) ?hr ?_; (case hd => rfl); (case hg => rfl); (case hr => first | (go_simp; done) | (go_simp; rfl)); intro gb134 hg w66 hbox hb; have n0_ := Aside0.mk (Kd.R_below (by (with_reducible repeat (first | apply Kd.R_alloc | apply Kd.R_drewN | apply Kd.R_drew)); exact HO131.out) hb); have n1_ := Aside0.mk (Kd.R_below (by (with_reducible repeat (first | apply Kd.R_alloc | apply Kd.R_drewN | apply Kd.R_drew)); exact HO133.out) hb); have n2_ := Aside0.mk (below_step (by repeat (first | (with_reducible first | exact HB.out | apply below_alloc | apply pw_below_drewN | apply below_drew1) | exact HB.out)) hb); have n3_ := Aside0.mk (hbox); have n4_ := Aside0.mk ((by rw [hg]; exact (below_size (by repeat (first | (with_reducible first | exact HB.out | apply below_alloc | apply pw_below_drewN | apply below_drew1) | exact HB.out))) : w.heap.size ≤ gb134)); have n5_ := Aside0.mk ((by rw [hg]; exact (below_size (by repeat (first | (with_reducible first | exact HB.out | apply below_alloc | apply pw_below_drewN | apply below_drew1) | exact HB.out))) : w.heap.size ≤ gb134)); clear HO131; clear HO133; clear HB; have HO131 := n0_; have HO133 := n1_; have HB := n2_; have BK134 := n3_; have GW134 := n4_; have GE134 := n5_; clear n0_ n1_ n2_ n3_ n4_ n5_; clear hb hbox hg; obtain ⟨Ao67, co67, eo67⟩ := Kd.R_slice HO133.out; subst eo67; have hcz68_0 : w66.cell? ⟨gb134, 0, none⟩ = some (.slice none 0 0) := (blk_cell BK134.out 0).trans rfl; have hfz68_0 := blk_frozen BK134.out 0))
            go_ret2
            exact ⟨_, by first | rfl | (simp [errW_none, errW_some] <;> rfl) | (simp [*, errW_none, errW_some] <;> rfl), by first | exact Kd.R_nil _ _ _ _ _ | exact Kd.N_nil _ _ _ _ _ | exact Kd.V_nil _ _ _ _ _ | exact Kd.Q_nil _ _ _ _ _ | exact Kd.S_nil _ _ _ _ _, by repeat (first | (with_reducible first | exact HB.out | apply below_alloc | apply pw_below_drewN | apply below_drew1 | refine below_set ?_ GE134.out) | exact HB.out)⟩
      · replace c7 := Bool.eq_false_iff.mpr c7
        subst c7
        have H1 : (some (([] : List Int), 8)) = some (r1, r2) := by first | (rw [if_neg (show ¬ (false = true) by decide)] at H; exact H) | rfl
        clear H
        have H := H1
        clear H1
        simp only [Option.some.injEq, Prod.mk.injEq] at H
        obtain ⟨rfl, rfl⟩ := H
        go_enter Try.func51, Try.ntmps51
        go_wp2_with (first | ((with_reducible refine gate_callee (f := 57) rfl ?_); refine goesL_ (some 15) rfl rfl Try.func57 (by kernel_rfl) rfl #[.slice A1 l1.length c1] rfl (by (try simp only [List.map_toArray, List.map_cons, List.map_nil]); first | done | rfl | (simp only [List.length_drop, List.length_take]; rfl)) ?_; (with_reducible refine (share_Whole.calls k _ _ l1 t101 t102 _ ?side1 ?side2 A3.out).mono ?_); (case side1 => repeat (first | exact HR1.out | (with_reducible refine Kd.C_alloc ?_ _) | (with_reducible refine Kd.C_drewN ?_ _) | (with_reducible refine Kd.C_drew ?_))); (case side2 => exact HC1.out); rintro e w' ⟨rfl, ⟨nd, rfl⟩⟩; refine ⟨_, rfl, ?_⟩) | (go_at_call 31; (with_reducible refine (cents_In.calls a0 false _ A6.out).mono ?_); rintro e w' ⟨rfl, ⟨nd, rfl⟩⟩))
        go_ret2
        exact ⟨_, by first | rfl | (simp [errW_none, errW_some] <;> rfl) | (simp [*, errW_none, errW_some] <;> rfl), by first | exact Kd.R_nil _ _ _ _ _ | exact Kd.N_nil _ _ _ _ _ | exact Kd.V_nil _ _ _ _ _ | exact Kd.Q_nil _ _ _ _ _ | exact Kd.S_nil _ _ _ _ _, by repeat (first | (with_reducible first | exact HB.out | apply below_alloc | apply pw_below_drewN | apply below_drew1) | exact HB.out)⟩
  · rw [if_neg c4] at H
    have c4b0 : (t102 == 0) = false := beq_eq_false_iff_ne.mpr c4
    have c4b1 : (t102 != 0) = true := bne_iff_ne.mpr c4
    simp only [Option.some.injEq, Prod.mk.injEq] at H
    obtain ⟨rfl, rfl⟩ := H
    go_enter Try.func51, Try.ntmps51
    go_wp2_with (first | ((with_reducible refine gate_callee (f := 57) rfl ?_); refine goesL_ (some 15) rfl rfl Try.func57 (by kernel_rfl) rfl #[.slice A1 l1.length c1] rfl (by (try simp only [List.map_toArray, List.map_cons, List.map_nil]); first | done | rfl | (simp only [List.length_drop, List.length_take]; rfl)) ?_; (with_reducible refine (share_Whole.calls k _ _ l1 t101 t102 _ ?side1 ?side2 A3.out).mono ?_); (case side1 => repeat (first | exact HR1.out | (with_reducible refine Kd.C_alloc ?_ _) | (with_reducible refine Kd.C_drewN ?_ _) | (with_reducible refine Kd.C_drew ?_))); (case side2 => exact HC1.out); rintro e w' ⟨rfl, ⟨nd, rfl⟩⟩; refine ⟨_, rfl, ?_⟩))
    go_ret2
    exact ⟨_, by first | rfl | (simp [errW_none, errW_some] <;> rfl) | (simp [*, errW_none, errW_some] <;> rfl), by first | exact Kd.R_nil _ _ _ _ _ | exact Kd.N_nil _ _ _ _ _ | exact Kd.V_nil _ _ _ _ _ | exact Kd.Q_nil _ _ _ _ _ | exact Kd.S_nil _ _ _ _ _, by repeat (first | (with_reducible first | exact HB.out | apply below_alloc | apply pw_below_drewN | apply below_drew1) | exact HB.out)⟩
end Go.Proofs.Ytefhljhpcpajgaa.F
namespace Go.Proofs.Ytefhljhpcpajgaa.F
open Go.RowKit Go.Proofs.YtefhljhpcpajgaaX Go.Proofs.YtefhljhpcpajgaaW.PrintWords Go.Proofs.YtefhljhpcpajgaaW.PrintLast Go.Proofs.YtefhljhpcpajgaaW.PrintMore
attribute [local go_sem] max2_int min2_int max_two min_two max_three min_three max_four min_four   
attribute [local go_sem high] str_geq str_leq str_gtr
set_option linter.unusedVariables false
set_option linter.unusedSimpArgs false
def share_Evenly.j0 : Nat → Int → Int → Bool → Option (List Int × Int)
  | 0, _, _, _ => none
  | k + 1, x0, x1, x11 => if x11 = true then (some (([] : List Int), 2)) else ((share_even.f k x1).bind fun t101 => ((share_Out.f k x0 t101).bind fun bt104 => (some (bt104.1, bt104.2))))
def share_Evenly.f (k : Nat) (a0 : Int) (a1 : Int) : Option (List Int × Int) := if a1 < 1 then (share_Evenly.j0 k a0 a1 true) else (share_Evenly.j0 k a0 a1 (decide (a1 > 200)))
theorem share_Evenly.mono_l : ∀ k, (∀ y0 y1 y2, LeO (share_Evenly.j0 k y0 y1 y2) (share_Evenly.j0 (k + 1) y0 y1 y2))
  | 0 => fun _ _ _ r h => by simp [share_Evenly.j0] at h
  | k + 1 => by
    have ih0 := share_Evenly.mono_l k
    · intro y0 y1 y2
      unfold share_Evenly.j0
      repeat' first
      | (with_reducible exact ih0 _ _ _)
      | (with_reducible exact share_Out.mono _ _ _)
      | (with_reducible exact share_even.mono _ _)
      | (with_reducible exact LeO.refl _)
      | (with_reducible exact LeO.none _)
      | (with_reducible refine LeO.ite ?_ ?_)
      | (with_reducible refine LeO.bind ?_ (fun _ => ?_))
      | exact ih0 _ _ _
      | exact share_Out.mono _ _ _
      | exact share_even.mono _ _
      | exact LeO.none _
      | refine LeO.ite ?_ ?_
      | refine LeO.bind ?_ (fun _ => ?_)
theorem share_Evenly.mono : ∀ a0 a1 k, LeO (share_Evenly.f k a0 a1) (share_Evenly.f (k + 1) a0 a1) := by
  intro a0 a1 k
  have ih0 := share_Evenly.mono_l k
  unfold share_Evenly.f
  repeat' first
      | (with_reducible exact ih0 _ _ _)
      | (with_reducible exact share_Out.mono _ _ _)
      | (with_reducible exact share_even.mono _ _)
      | (with_reducible exact LeO.refl _)
      | (with_reducible exact LeO.none _)
      | (with_reducible refine LeO.ite ?_ ?_)
      | (with_reducible refine LeO.bind ?_ (fun _ => ?_))
      | exact ih0 _ _ _
      | exact share_Out.mono _ _ _
      | exact share_even.mono _ _
      | exact LeO.none _
      | refine LeO.ite ?_ ?_
      | refine LeO.bind ?_ (fun _ => ?_)
set_option maxHeartbeats 8000000 in
set_option maxRecDepth 100000 in
theorem share_Evenly.calls (k : Nat) (a0 : Int) (a1 : Int) (r1 : List Int) (r2 : Int) (w : World) (h : share_Evenly.f k a0 a1 = some (r1, r2)) :
    Calls Try.prog 53 #[.int .i64 a0, .int .i64 a1] w fun e w' => ∃ v0_ : Value, e = .returned (.tuple #[v0_, .int .i64 r2]) ∧ Kd.R (Kd.int .i64) 3 w' w.heap.size (fun _ => True) v0_ r1 ∧ Below w.heap.size w w' := by
  have HB := Aside0.mk (Below.refl w.heap.size w)
  have H : (if a1 < 1 then (share_Evenly.j0 k a0 a1 true) else (share_Evenly.j0 k a0 a1 (decide (a1 > 200)))) = some (r1, r2) := h
  clear h
  have HC3 := Aside0.mk H
  clear H
  go_enter Try.func53, Try.ntmps53
  go_upto_region 1 with (fail)
  go_cut [11] (fun v11 wc => ∃ (kq : Nat) (x11_2 : Bool), v11 = .bool x11_2 ∧ Aside0 (share_Evenly.j0 kq a0 a1 x11_2 = some (r1, r2)) ∧ Aside0 (kq ≤ k) ∧ Aside0 (Below w.heap.size w wc))
  case first =>
    have H := HC3.out
    clear HC3
    by_cases c4 : a1 < 1
    · rw [if_pos c4] at H
      have c4b0 : decide (a1 < 1) = true := decide_eq_true c4
      clear c4
      (first | rw [c4b0] | (simp only [i64_w, i32_w]; rw [c4b0]) | skip)
      have H' := Aside0.mk H
      clear H
      go_wp2
      go_meet
      case rel => exact ⟨_, (true), (by first | rfl | (simp; done) | (simp [*]; done)), H', ⟨by first | omega | exact Nat.le_refl _⟩, ⟨by repeat (first | (with_reducible first | exact HB.out | apply below_alloc | apply pw_below_drewN | apply below_drew1) | exact HB.out)⟩⟩
    · rw [if_neg c4] at H
      have c4b0 : decide (a1 < 1) = false := decide_eq_false c4
      clear c4
      (first | rw [c4b0] | (simp only [i64_w, i32_w]; rw [c4b0]) | skip)
      have H' := Aside0.mk H
      clear H
      go_wp2
      go_meet
      case rel => exact ⟨_, (decide (a1 > 200)), (by first | rfl | (simp; done) | (simp [*]; done)), H', ⟨by first | omega | exact Nat.le_refl _⟩, ⟨by repeat (first | (with_reducible first | exact HB.out | apply below_alloc | apply pw_below_drewN | apply below_drew1) | exact HB.out)⟩⟩
  case rest =>
    clear HC3
    try clear p2
    try clear c4
    try clear c4b0
    obtain ⟨kq, x11_2, rfl, HA, HJ2, HB⟩ := hcut
    cases kq with
    | zero => exact absurd HA.out (by simp [share_Evenly.j0])
    | succ kj2 =>
      have H := HA.out
      clear HA
      simp only [share_Evenly.j0] at H
      by_cases c5 : x11_2 = true
      · subst c5
        have H1 : (some (([] : List Int), 2)) = some (r1, r2) := by first | (rw [if_pos rfl] at H; exact H) | rfl
        clear H
        have H := H1
        clear H1
        simp only [Option.some.injEq, Prod.mk.injEq] at H
        obtain ⟨rfl, rfl⟩ := H
        go_wp2
        go_ret2
        exact ⟨_, by first | rfl | (simp [errW_none, errW_some] <;> rfl) | (simp [*, errW_none, errW_some] <;> rfl), by first | exact Kd.R_nil _ _ _ _ _ | exact Kd.N_nil _ _ _ _ _ | exact Kd.V_nil _ _ _ _ _ | exact Kd.Q_nil _ _ _ _ _ | exact Kd.S_nil _ _ _ _ _, by repeat (first | (with_reducible first | exact HB.out | apply below_alloc | apply pw_below_drewN | apply below_drew1) | exact HB.out)⟩
      · replace c5 := Bool.eq_false_iff.mpr c5
        subst c5
        have H1 : ((share_even.f kj2 a1).bind fun t101 => ((share_Out.f kj2 a0 t101).bind fun bt104 => (some (bt104.1, bt104.2)))) = some (r1, r2) := by first | (rw [if_neg (show ¬ (false = true) by decide)] at H; exact H) | rfl
        clear H
        have H := H1
        clear H1
        replace H := Option.bind_eq_some_iff.mp H
        obtain ⟨t101, A60, H⟩ := H
        replace H : ((share_Out.f kj2 a0 t101).bind fun bt104 => (some (bt104.1, bt104.2))) = some (r1, r2) := H
        have A6 := Aside0.mk A60
        clear A60
        replace H := Option.bind_eq_some_iff.mp H
        obtain ⟨⟨t104, t105⟩, A70, H⟩ := H
        replace H : (some (t104, t105)) = some (r1, r2) := H
        have A7 := Aside0.mk A70
        clear A70
        simp only [Option.some.injEq, Prod.mk.injEq] at H
        obtain ⟨rfl, rfl⟩ := H
        go_wp2_with (first | ((with_reducible refine gate_callee (f := 106) rfl ?_); refine goesL_ (some 14) rfl rfl Try.func106 (by kernel_rfl) rfl #[.int .i64 a1] rfl (by (try simp only [List.map_toArray, List.map_cons, List.map_nil]); first | done | rfl | (simp only [List.length_drop, List.length_take]; rfl)) ?_; (with_reducible refine (share_even.calls kj2 a1 t101 _ A6.out).mono ?_); rintro e w8 ⟨v102, rfl, ho0, hb⟩; refine ⟨_, rfl, ?_⟩; have n0_ := Aside0.mk (Kd.R_lower ho0 (below_size (by repeat (first | (with_reducible first | exact HB.out | apply below_alloc | apply pw_below_drewN | apply below_drew1) | exact HB.out)))); have n1_ := Aside0.mk (below_step (by repeat (first | (with_reducible first | exact HB.out | apply below_alloc | apply pw_below_drewN | apply below_drew1) | exact HB.out)) hb); clear HB; have HO103 := n0_; have HB := n1_; clear n0_ n1_; (try clear hb); (try clear hb2); (try clear hk); (try clear hi); (try clear ho0); obtain ⟨Ao9, co9, eo9⟩ := Kd.R_slice HO103.out; subst eo9) | ((with_reducible refine gate_callee (f := 51) rfl ?_); refine goesL_ (some 15) rfl rfl Try.func51 (by kernel_rfl) rfl #[.int .i64 a0, .slice Ao9 t101.length co9] rfl (by (try simp only [List.map_toArray, List.map_cons, List.map_nil]); first | done | rfl | (simp only [List.length_drop, List.length_take]; rfl)) ?_; (with_reducible refine (share_Out.calls kj2 a0 _ _ t101 t104 t105 _ ?side1 ?side2 A7.out).mono ?_); (case side1 => repeat (first | exact (Kd.R_reads' HO103.out).2.2 | (with_reducible refine Kd.C_alloc ?_ _) | (with_reducible refine Kd.C_drewN ?_ _) | (with_reducible refine Kd.C_drew ?_))); (case side2 => exact (Kd.R_reads' HO103.out).2.1); rintro e w10 ⟨v106, rfl, ho0, hb⟩; refine ⟨_, rfl, ?_⟩; have n0_ := Aside0.mk (Kd.R_elder' (by (with_reducible repeat (first | apply Kd.R_alloc | apply Kd.R_drewN | apply Kd.R_drew)); exact HO103.out) (Kd.R_base ho0) hb); have n1_ := Aside0.mk (Kd.R_lower (Kd.R_new' ho0 (Kd.R_lt (by (with_reducible repeat (first | apply Kd.R_alloc | apply Kd.R_drewN | apply Kd.R_drew)); exact HO103.out))) (below_size (by repeat (first | (with_reducible first | exact HB.out | apply below_alloc | apply pw_below_drewN | apply below_drew1) | exact HB.out)))); have n2_ := Aside0.mk (below_step (by repeat (first | (with_reducible first | exact HB.out | apply below_alloc | apply pw_below_drewN | apply below_drew1) | exact HB.out)) hb); clear HO103; clear HB; have HO103 := n0_; have HO107 := n1_; have HB := n2_; clear n0_ n1_ n2_; (try clear hb); (try clear hb2); (try clear hk); (try clear hi); (try clear ho0)))
        go_ret2
        exact ⟨_, by first | rfl | (simp [errW_none, errW_some] <;> rfl) | (simp [*, errW_none, errW_some] <;> rfl), by (with_reducible repeat (first | apply Kd.R_alloc | apply Kd.R_drewN | apply Kd.R_drew)); exact Kd.R_mono HO107.out (fun _ hk => trivial), by repeat (first | (with_reducible first | exact HB.out | apply below_alloc | apply pw_below_drewN | apply below_drew1) | exact HB.out)⟩
end Go.Proofs.Ytefhljhpcpajgaa.F
namespace Go.Proofs.Ytefhljhpcpajgaa.F
open Go.RowKit Go.Proofs.YtefhljhpcpajgaaX Go.Proofs.YtefhljhpcpajgaaW.PrintWords Go.Proofs.YtefhljhpcpajgaaW.PrintLast Go.Proofs.YtefhljhpcpajgaaW.PrintMore
attribute [local go_sem] max2_int min2_int max_two min_two max_three min_three max_four min_four   
attribute [local go_sem high] str_geq str_leq str_gtr
set_option linter.unusedVariables false
set_option linter.unusedSimpArgs false
def line_Unit_1_v3_v24_v3.f (k : Nat) (a0 : Int) (a1_0 : Int) (a2_0 : Int) (a3_0 : Int) : Option (Int) := (share_Evenly.f k a0 a1_0).bind fun bt104 => (if bt104.2 = 0 then (if 0 ≤ a3_0 then (if a3_0 < (bt104.1.length : Int) then (some (rd bt104.1 a3_0)) else (none)) else (none)) else (none))
theorem line_Unit_1_v3_v24_v3.mono : ∀ a0 a1 a2 a3 k, LeO (line_Unit_1_v3_v24_v3.f k a0 a1 a2 a3) (line_Unit_1_v3_v24_v3.f (k + 1) a0 a1 a2 a3) := by
  intro a0 a1 a2 a3 k
  unfold line_Unit_1_v3_v24_v3.f
  repeat' first
      | (with_reducible exact share_Evenly.mono _ _ _)
      | (with_reducible exact LeO.refl _)
      | (with_reducible exact LeO.none _)
      | (with_reducible refine LeO.ite ?_ ?_)
      | (with_reducible refine LeO.bind ?_ (fun _ => ?_))
      | exact share_Evenly.mono _ _ _
      | exact LeO.none _
      | refine LeO.ite ?_ ?_
      | refine LeO.bind ?_ (fun _ => ?_)
set_option maxHeartbeats 8000000 in
set_option maxRecDepth 100000 in
theorem line_Unit_1_v3_v24_v3.calls (k : Nat) (a0 : Int) (g1 : Nat) (a1_0 : Int) (g2 : Nat) (a2_0 : Int) (g3 : Nat) (a3_0 : Int) (r : Int) (w : World) (hk1 : w.heap[g1]? = some (.cells #[.int .i64 a1_0] 3 (0, 0))) (hk2 : w.heap[g2]? = some (.cells #[.int .i64 a2_0] 24 (0, 0))) (hk3 : w.heap[g3]? = some (.cells #[.int .i64 a3_0] 3 (0, 0))) (h : line_Unit_1_v3_v24_v3.f k a0 a1_0 a2_0 a3_0 = some r) :
    Calls Try.prog 117 #[.int .i64 a0, .pointer (some ⟨g1, 0, none⟩), .pointer (some ⟨g2, 0, none⟩), .pointer (some ⟨g3, 0, none⟩)] w fun e w' => e = .returned (.int .i64 r) ∧ Below w.heap.size w w' := by
  have BK101 := Aside0.mk hk1
  clear hk1
  have BK102 := Aside0.mk hk2
  clear hk2
  have BK103 := Aside0.mk hk3
  clear hk3
  have HB := Aside0.mk (Below.refl w.heap.size w)
  have H : ((share_Evenly.f k a0 a1_0).bind fun bt104 => (if bt104.2 = 0 then (if 0 ≤ a3_0 then (if a3_0 < (bt104.1.length : Int) then (some (rd bt104.1 a3_0)) else (none)) else (none)) else (none))) = some r := h
  clear h
  replace H := Option.bind_eq_some_iff.mp H
  obtain ⟨⟨t104, t105⟩, A50, H⟩ := H
  replace H : (if t105 = 0 then (if 0 ≤ a3_0 then (if a3_0 < (t104.length : Int) then (some (rd t104 a3_0)) else (none)) else (none)) else (none)) = some r := H
  have A5 := Aside0.mk A50
  clear A50
  by_cases c6 : t105 = 0
  · rw [if_pos c6] at H
    have c6b0 : (t105 == 0) = true := beq_iff_eq.mpr c6
    have c6b1 : (t105 != 0) = false := bne_eq_false_iff_eq.mpr c6
    clear c6
    by_cases c7 : 0 ≤ a3_0
    · rw [if_pos c7] at H
      have c7b0 : decide (0 ≤ a3_0) = true := decide_eq_true c7
      clear c7
      by_cases c8 : a3_0 < (t104.length : Int)
      · rw [if_pos c8] at H
        have c8b0 : decide (a3_0 < (t104.length : Int)) = true := decide_eq_true c8
        clear c8
        obtain rfl := Option.some.inj H
        have hcz11_0 : w.cell? ⟨g1, 0, none⟩ = some (.int .i64 a1_0) := (blk_cell BK101.out 0).trans rfl
        have hfz11_0 := blk_frozen BK101.out 0
        go_enter Try.func117, Try.ntmps117
        go_wp2_with (first | ((with_reducible refine gate_callee (f := 53) rfl ?_); refine goesL_ (some 11) rfl rfl Try.func53 (by kernel_rfl) rfl #[.int .i64 a0, .int .i64 a1_0] rfl (by (try simp only [List.map_toArray, List.map_cons, List.map_nil]); first | done | rfl | (simp only [List.length_drop, List.length_take]; rfl)) ?_; (with_reducible refine (share_Evenly.calls k a0 a1_0 t104 t105 _ A5.out).mono ?_); rintro e w12 ⟨v106, rfl, ho0, hb⟩; refine ⟨_, rfl, ?_⟩; have n0_ := Aside0.mk (Kd.R_lower (Kd.R_newB (Kd.R_newB ho0 (g := g1) (o := .cells #[.int .i64 a1_0] 3 (0, 0)) (by (with_reducible repeat (first | refine blk_drewN ?_ _ | refine blk_drew ?_ | refine blk_alloc ?_ _)); exact BK101.out)) (g := g3) (o := .cells #[.int .i64 a3_0] 3 (0, 0)) (by (with_reducible repeat (first | refine blk_drewN ?_ _ | refine blk_drew ?_ | refine blk_alloc ?_ _)); exact BK103.out)) (below_size (by repeat (first | (with_reducible first | exact HB.out | apply below_alloc | apply pw_below_drewN | apply below_drew1 | refine below_set ?_ GE101.out | refine below_set ?_ GE102.out | refine below_set ?_ GE103.out) | exact HB.out)))); have n1_ := Aside0.mk (blk_below (g := g1) (o := .cells #[.int .i64 a1_0] 3 (0, 0)) (by (with_reducible repeat (first | refine blk_drewN ?_ _ | refine blk_drew ?_ | refine blk_alloc ?_ _)); exact BK101.out) hb); have n2_ := Aside0.mk (blk_below (g := g2) (o := .cells #[.int .i64 a2_0] 24 (0, 0)) (by (with_reducible repeat (first | refine blk_drewN ?_ _ | refine blk_drew ?_ | refine blk_alloc ?_ _)); exact BK102.out) hb); have n3_ := Aside0.mk (blk_below (g := g3) (o := .cells #[.int .i64 a3_0] 3 (0, 0)) (by (with_reducible repeat (first | refine blk_drewN ?_ _ | refine blk_drew ?_ | refine blk_alloc ?_ _)); exact BK103.out) hb); have n4_ := Aside0.mk (below_step (by repeat (first | (with_reducible first | exact HB.out | apply below_alloc | apply pw_below_drewN | apply below_drew1 | refine below_set ?_ GE101.out | refine below_set ?_ GE102.out | refine below_set ?_ GE103.out) | exact HB.out)) hb); clear BK101; clear BK102; clear BK103; clear HB; have HO107 := n0_; have BK101 := n1_; have BK102 := n2_; have BK103 := n3_; have HB := n4_; clear n0_ n1_ n2_ n3_ n4_; (try clear hb); (try clear hb2); (try clear hk); (try clear hi); (try clear ho0); have hcz14_0 : w12.cell? ⟨g3, 0, none⟩ = some (.int .i64 a3_0) := (blk_cell BK103.out 0).trans rfl; have hfz14_0 := blk_frozen BK103.out 0; obtain ⟨Ao15, co15, eo15⟩ := Kd.R_slice HO107.out; subst eo15; have p108 : 0 ≤ (a3_0 : Int) := of_decide_eq_true (by first | (with_reducible assumption) | assumption); have q108 : a3_0 < (t104.length : Int) := of_decide_eq_true (by first | (with_reducible assumption) | assumption); obtain ⟨ad108, e108, hx108_0⟩ := Kd.at_int (Kd.R_reads' HO107.out).2.2 a3_0 p108 q108; cases e108; replace p108 := eq_true p108; replace q108 := eq_true q108))
        go_ret
        exact ⟨by first | rfl | (simp [errW_none, errW_some] <;> rfl) | (simp [*, errW_none, errW_some] <;> rfl), by repeat (first | (with_reducible first | exact HB.out | apply below_alloc | apply pw_below_drewN | apply below_drew1 | refine below_set ?_ GE101.out | refine below_set ?_ GE102.out | refine below_set ?_ GE103.out) | exact HB.out)⟩
      · rw [if_neg c8] at H
        exact absurd H (by simp)
    · rw [if_neg c7] at H
      exact absurd H (by simp)
  · rw [if_neg c6] at H
    exact absurd H (by simp)
end Go.Proofs.Ytefhljhpcpajgaa.F
set_option linter.unusedVariables false
set_option linter.unusedSimpArgs false
namespace Go.Proofs.YtefhljhpcpajgaaX
open Go.RowKit Go.Proofs.YtefhljhpcpajgaaW.PrintWords Go.Proofs.YtefhljhpcpajgaaW.PrintLast Go.Proofs.YtefhljhpcpajgaaW.PrintMore
section
variable {P : Program} {ops : Array Oper} {Q : Exit → Act → World → Prop}
theorem goesC_ {oi : Oper} {N : Option Tmp} {a : Act} {w : World} {K : Act → World → Prop} {f : FuncId} {fn : Func} {cal : Operand} {fs cs : Array Value} {ar_ : Array Operand} {ts : Array TypeId} (hf : P.funcs[f]? = some fn) (hname : (fn.name == "runtime.NumGoroutine") = false) (hb : fn.body.isSome = true) (args : Array Value)
    (hw : Region.wanted oi (yielded ops a.tmps) = true) (hN : oi.dst = N) (hop : oi.op = .call { callee := .value cal, args := ar_, argTypes := ts }) (hcal : a.eval cal = .func (.func f) fs cs) (hargs : fs ++ ar_.map a.eval ++ cs = args)
    (h : Calls P f args w fun e w' => ∃ v, e = .returned v ∧ K (a.put N v) w') : if Region.wanted oi (yielded ops a.tmps) = true then Oper.wp P oi a w K Q else K (a.put N undef) w := by
  refine call_ f args hw hN ?_ h
  have he := enters_ hf hname hb args w
  unfold execOp
  subst hargs
  simpa [hop, resolve, Deferred.ofValue, invoke, hcal] using he
end
theorem run_loadVar_one {P : Program} {w : World} {t : TypeId} {g : Nat} {v : Value} (hA : (isAgg t).run P w = .ok false w) (hc : w.cell? ⟨g, 0, none⟩ = some v) : (loadVar t ⟨g, 0, none⟩).run P w = .ok v w := by
  unfold loadVar
  simp [hA, hc]
inductive Vals1 (P : Program) (tmps : Array Value) (w : World) : List ResultVar → List Value → Prop where
  | nil : Vals1 P tmps w [] []
  | tmp {u : Tmp} {rs : List ResultVar} {vs : List Value} (h : Vals1 P tmps w rs vs) : Vals1 P tmps w (.tmp u :: rs) (tmps.getD u undef :: vs)
  | cell1 {p : Tmp} {ty : TypeId} {rs : List ResultVar} {vs : List Value} (g : Nat) {v : Value} (hp : tmps.getD p undef = .pointer (some ⟨g, 0, none⟩)) (hl : (loadVar ty ⟨g, 0, none⟩).run P w = .ok v w) (h : Vals1 P tmps w rs vs) : Vals1 P tmps w (.cell p ty :: rs) (v :: vs)
theorem vals1_run {P : Program} {tmps : Array Value} {w : World} {rs : List ResultVar} {vs : List Value} (hv : Vals1 P tmps w rs vs) (f : ResultVar → Sem Value) (hf : ∀ u, f (.tmp u) = pure (tmps.getD u undef)) (hc : ∀ a t, f (.cell a t) = (do loadVar t (← asAddr (tmps.getD a undef)))) :
    (rs.mapM f).run P w = .ok vs w := by
  induction hv with
  | nil => simp
  | tmp h ih => simp [List.mapM_cons, hf, ih]
  | cell1 g hp hl h ih =>
    rw [List.mapM_cons, hc, hp]
    simp [asAddr, hl, ih]
theorem results_list1 {P : Program} {tmps : Array Value} {w : World} {fn : Func} {rs : List ResultVar} {vs : List Value} (h : fn.results = rs.toArray) (hl : vs.length ≠ 1) (hv : Vals1 P tmps w rs vs) : (results fn tmps).run P w = .ok (.tuple vs.toArray) w := by
  unfold results
  rw [h, List.mapM_toArray]
  simp only [Sem.run_bind, Sem.run_map]
  rw [vals1_run hv]
  · simp [hl]
  · intro u
    rfl
  · intro a t
    rfl
end Go.Proofs.YtefhljhpcpajgaaX
