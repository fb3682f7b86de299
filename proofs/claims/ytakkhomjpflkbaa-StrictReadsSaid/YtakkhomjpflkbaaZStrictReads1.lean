-- merged and pruned by prune.py (the session's own program); its words go back to the kit's print
import Derived.Below
import Derived.Deep.Draws
import Derived.Deep.AppendLies
import Derived.Maps.AppendAt
import Derived.OwnWalk
import Derived.Laws.BytesArg
import Derived.Laws.MakeOwn
import Derived.Laws.OwnMore
import Derived.Deep.OwnRows
import Derived.Tactics
import Derived.Lib.ConvBytes
import Derived.Laws.Slices
import Derived.WalkKit
import Derived.KernelRfl
import Derived.RowKit3
import Derived.Deep.LoopGhost
import Derived.Deep.QuietTactic
import Derived.BigQuiet
import Derived.WideLaws
import Derived.Deep.DeepCutAuto
import Derived.Deep.CutBlock
import Derived.Deep.RegionHeld3
import Derived.Laws.Rows
import Derived.Lib.AppendStr
import Derived.ArgAppend
import Derived.Laws.IdiomCopy
import Derived.RowKit
import Derived.OrdersHeld
import Derived.Laws.BitsLemmas
import Derived.Deep.RegionLawGrows
import Derived.Lib.SliceRun
import Derived.Test.YtakkhomjpflkbaaProg
import Derived.Laws.StructEq
import Derived.Lib.OthersKept
import Derived.Lib.RuneCount
import Derived.Laws.Cover4
import Derived.Outline
import Derived.Shelf.Strings.Builder1
import Derived.Shelf.Strings.BuilderF
import Derived.Shelf.Strings.BuilderK
import Derived.Shelf.Utf8.RuneCount
import Derived.Shelf.Strings.Prefix
import Derived.Test.YtakkhomjpflkbaaZStrictReads0
set_option linter.unusedVariables false
set_option linter.unusedSimpArgs false
namespace Go.Proofs.YtakkhomjpflkbaaX
open Go.RowKit Go.Proofs.YtakkhomjpflkbaaW.PrintWords Go.Proofs.YtakkhomjpflkbaaW.PrintLast Go.Proofs.YtakkhomjpflkbaaW.PrintMore
theorem x_less_cons (a b : UInt8) (x y : List UInt8) : Op.bytesLess (a :: x) (b :: y) = true ↔ a.toNat < b.toNat ∨ (a = b ∧ Op.bytesLess x y = true) := by
  simp only [Op.bytesLess, Bool.or_eq_true, Bool.and_eq_true, decide_eq_true_eq, beq_iff_eq, UInt8.lt_iff_toNat_lt]
theorem x_less_or : ∀ (a b : List UInt8), (Op.bytesLess a b || a == b) = !(Op.bytesLess b a)
  | [], [] => rfl
  | [], _ :: _ => rfl
  | _ :: _, [] => by simp [Op.bytesLess]
  | a :: x, b :: y => by
    have ih := x_less_or x y
    rw [Bool.eq_iff_iff] at ih ⊢
    rw [Bool.or_eq_true, Bool.not_eq_true', beq_iff_eq] at ih ⊢
    rw [x_less_cons, ← Bool.not_eq_true, x_less_cons]
    rw [← Bool.not_eq_true] at ih
    constructor
    · rintro ((h | ⟨rfl, h⟩) | h)
      · rintro (g | ⟨g, _⟩)
        · omega
        subst g; omega
      · rintro (g | ⟨_, g⟩)
        · omega
        exact ih.1 (.inl h) g
      injection h with h1 h2
      subst h1
      rintro (g | ⟨_, g⟩)
      · omega
      exact ih.1 (.inr h2) g
    intro h
    by_cases h1 : a.toNat < b.toNat
    · exact .inl (.inl h1)
    have h2 : a = b := by
      apply UInt8.toNat_inj.1
      have : ¬ b.toNat < a.toNat := fun g => h (.inl g)
      omega
    subst h2
    rcases ih.2 (fun g => h (.inr ⟨rfl, g⟩)) with g | g
    · exact .inl (.inr ⟨rfl, g⟩)
    exact .inr (by rw [g])
theorem str_geq (t : TypeId) (a b : ByteArray) : binOp .geq t (.string a) (.string b) = pure (.bool !(Op.bytesLess a.toList b.toList)) := by simp [binOp, Op.stringOp]
theorem str_leq (t : TypeId) (a b : ByteArray) : binOp .leq t (.string a) (.string b) = pure (.bool !(Op.bytesLess b.toList a.toList)) := by
  rw [← x_less_or]; simp [binOp, Op.stringOp]
theorem str_gtr (t : TypeId) (a b : ByteArray) : binOp .gtr t (.string a) (.string b) = pure (.bool (Op.bytesLess b.toList a.toList)) := by
  have h := x_less_or a.toList b.toList
  have h2 : (!(Op.bytesLess a.toList b.toList || a.toList == b.toList)) = Op.bytesLess b.toList a.toList := by rw [h]; simp
  rw [← h2]; simp [binOp, Op.stringOp]
end Go.Proofs.YtakkhomjpflkbaaX
namespace Go.Proofs.Ytakkhomjpflkbaa.F
open Go.RowKit Go.Proofs.YtakkhomjpflkbaaX Go.Proofs.YtakkhomjpflkbaaW.PrintWords Go.Proofs.YtakkhomjpflkbaaW.PrintLast Go.Proofs.YtakkhomjpflkbaaW.PrintMore
attribute [local go_sem] max2_int min2_int max_two min_two max_three min_three max_four min_four   
attribute [local go_sem high] str_geq str_leq str_gtr
set_option linter.unusedVariables false
set_option linter.unusedSimpArgs false
def errW : Option (Int × Int) → Value
  | none => .nilIface
  | some c => .iface 192 (.agg #[.int .i64 c.1, .int .i64 c.2])
theorem errW_none : errW none = .nilIface := rfl
theorem errW_some (c : Int × Int) : errW (some c) = .iface 192 (.agg #[.int .i64 c.1, .int .i64 c.2]) := rfl
theorem info3 : (Try.prog.info? 3).map (fun i => (i.zero, i.size, i.bytes)) = some (some (.int .i64 0), 1, 8) := by kernel_rfl
theorem info5 : (Try.prog.info? 5).map (fun i => (i.zero, i.size, i.bytes)) = some (some (.int .u8 0), 1, 1) := by kernel_rfl
theorem info9 : (Try.prog.info? 9).map (fun i => (i.zero, i.size, i.bytes)) = some (some (.string ⟨#[]⟩), 1, 16) := by kernel_rfl
structure S51 where
  f0 : Int
  f1 : Int
  f2 : Int
def z51 : S51 := ⟨(0 : Int), (0 : Int), (0 : Int)⟩
def k51 : Kd S51 := Kd.iso (Kd.pair (Kd.int .i64) (Kd.pair (Kd.int .i64) (Kd.int .i64))) (fun x : S51 => (x.f0, x.f1, x.f2))
theorem k51_open {w : World} {x : S51} {cs : List Value} (h : k51.K w x cs) : cs = [.int .i64 x.f0, .int .i64 x.f1, .int .i64 x.f2] := by
  obtain ⟨_, _, rfl, rfl, ⟨_, _, rfl, rfl, rfl⟩⟩ := h
  exact rfl
def rd_T51 (xs : List S51) (i : Int) : S51 := xs.getD i.toNat z51
theorem at_T51 {w : World} {A : Option Addr} {n : Nat} {xs : List S51} (h : Kd.C k51 w A n xs) (i : Int) (h0 : 0 ≤ i) (h1 : i < n) : ∃ ad , A = some ad ∧ w.cell? (ad.add (i.toNat * 3)) = some (.int .i64 (rd_T51 xs i).f0) ∧ w.cell? ⟨(ad.add (i.toNat * 3)).block, (ad.add (i.toNat * 3)).off + 1, none⟩ = some (.int .i64 (rd_T51 xs i).f1) ∧ w.cell? ⟨(ad.add (i.toNat * 3)).block, (ad.add (i.toNat * 3)).off + 2, none⟩ = some (.int .i64 (rd_T51 xs i).f2) := by
  obtain ⟨ad, c, e, _, hK, hc0⟩ := Kd.C_get h z51 i h0 h1
  have hc : ∀ j u, c[j]? = some u → w.cell? (ad.add (i.toNat * 3 + j)) = some u := hc0
  obtain rfl := k51_open hK
  exact ⟨ad, e, hc 0 _ rfl, by rw [← add_field _ _ 1 (by omega)]; exact hc 1 _ rfl, by rw [← add_field _ _ 2 (by omega)]; exact hc 2 _ rfl⟩
theorem qA {P : Prop} (h : P := by first | (with_reducible assumption) | assumption) : P := h
theorem qB {P : Prop} (h : P := by repeat (first | (with_reducible first | exact HB.out | apply below_alloc | apply pw_below_drewN | apply below_drew1 | refine below_set ?_ (Aside0.out (by assumption))) | exact HB.out)) : P := h
theorem qE {P : Prop} (h : P := by first | rfl | (simp [errW_none, errW_some] <;> rfl) | (simp [*, errW_none, errW_some] <;> rfl)) : P := h
theorem qH {S : Prop} {n : Nat} {w W0 W : World} (hS : S) (hB : Below n w W0) (h : S → Below n w W0 → Below n w W := by intro s_ b_; repeat (first | (with_reducible first | exact b_ | apply below_alloc | apply pw_below_drewN | apply below_drew1 | refine below_set ?_ (Aside0.out (by assumption)) | refine below_set ?_ (IsS56.ge s_)) | exact b_)) : Below n w W := h hS hB
theorem qJ {w W0 W : World} {g : Nat} {row : Option Nat} (hq : KeepBut w W0 g row) (h : KeepBut w W0 g row → KeepBut w W g row := by intro h_; repeat (first | (with_reducible first | exact h_ | apply KeepBut.set_ | apply keep_drewN | apply keep_drew | apply keep_alloc | refine keep_far ?_ (Aside0.out (by assumption)) _) | exact h_)) : KeepBut w W g row := h hq
theorem qN {P : Prop} (h : P := by first | exact Kd.R_nil _ _ _ _ _ | exact Kd.N_nil _ _ _ _ _ | exact Kd.V_nil _ _ _ _ _ | exact Kd.Q_nil _ _ _ _ _ | exact Kd.S_nil _ _ _ _ _) : P := h
theorem qP2 {w : World} {g : Nat} {t : TypeId} {v0 v1 u0 u1 : Value} (h : w.heap[g]? = some (.cells #[v0, v1] t (0, 0))) : ((w.setCell ⟨g, 0, none⟩ u0).setCell ⟨g, 1, none⟩ u1).heap[g]? = some (.cells #[u0, u1] t (0, 0)) := by refine blk_put (cs := #[u0, v1]) ?_ 1 _ rfl; refine blk_put (cs := #[v0, v1]) ?_ 0 _ rfl; exact h
theorem qP3 {w : World} {g : Nat} {t : TypeId} {v0 v1 v2 u0 u1 u2 : Value} (h : w.heap[g]? = some (.cells #[v0, v1, v2] t (0, 0))) : (((w.setCell ⟨g, 0, none⟩ u0).setCell ⟨g, 1, none⟩ u1).setCell ⟨g, 2, none⟩ u2).heap[g]? = some (.cells #[u0, u1, u2] t (0, 0)) := by refine blk_put (cs := #[u0, u1, v2]) ?_ 2 _ rfl; refine blk_put (cs := #[u0, v1, v2]) ?_ 1 _ rfl; refine blk_put (cs := #[v0, v1, v2]) ?_ 0 _ rfl; exact h
theorem qS {P : Prop} (h : P := by rw [hg]; exact (below_size (by repeat (first | (with_reducible first | exact HB.out | apply below_alloc | apply pw_below_drewN | apply below_drew1 | refine below_set ?_ (Aside0.out (by assumption))) | exact HB.out)))) : P := h
theorem qT {n : Nat} {w W0 W : World} (hB : Below n w W0) (h : Below n w W0 → Below n w W := by intro b_; repeat (first | (with_reducible first | exact b_ | apply below_alloc | apply pw_below_drewN | apply below_drew1 | refine below_set ?_ (Aside0.out (by assumption))) | exact b_)) : Below n w W := h hB
theorem qc2f {w : World} {g : Nat} {t : TypeId} {v0 v1 : Value} (h : w.heap[g]? = some (.cells #[v0, v1] t (0, 0))) : w.cell? ⟨g, 0, none⟩ = some v0 ∧ w.cell? ⟨g, 1, none⟩ = some v1 ∧ w.frozen? ⟨g, 0, none⟩ = false ∧ w.frozen? ⟨g, 1, none⟩ = false := ⟨(blk_cell h 0).trans rfl, (blk_cell h 1).trans rfl, blk_frozen h 0, blk_frozen h 1⟩
theorem qc3f {w : World} {g : Nat} {t : TypeId} {v0 v1 v2 : Value} (h : w.heap[g]? = some (.cells #[v0, v1, v2] t (0, 0))) : w.cell? ⟨g, 0, none⟩ = some v0 ∧ w.cell? ⟨g, 1, none⟩ = some v1 ∧ w.cell? ⟨g, 2, none⟩ = some v2 ∧ w.frozen? ⟨g, 0, none⟩ = false ∧ w.frozen? ⟨g, 1, none⟩ = false ∧ w.frozen? ⟨g, 2, none⟩ = false := ⟨(blk_cell h 0).trans rfl, (blk_cell h 1).trans rfl, (blk_cell h 2).trans rfl, blk_frozen h 0, blk_frozen h 1, blk_frozen h 2⟩
theorem qg {P : Prop} (h : P := by first | (go_simp; done) | (go_simp; rfl)) : P := h
theorem qr {P : Prop} (h : P := by rfl) : P := h
theorem qy {P : Prop} (h : P := by intro w'; go_simp; with_reducible rfl) : P := h
theorem qz {P : Prop} (h : P := by simp only [Act.put, List.setIfInBounds_toArray, List.set_cons_zero, List.set_cons_succ, i64_w, i32_w]; rfl) : P := h
theorem qL {W0 W : World} {g : Nat} {o : Obj} (h0 : W0.heap[g]? = some o) (h : W0.heap[g]? = some o → W.heap[g]? = some o := by intro h_; (with_reducible repeat (first | refine blk_drewN ?_ _ | refine blk_drew ?_ | refine blk_alloc ?_ _ | apply qP2 | apply qP3 | refine blk_far ?_ (Aside0.out (by assumption)) _)); exact h_) : g < W.heap.size := blk_lt (h h0)
theorem qV {Q P : Prop} (hq : Q) (h : Q → P := by intro h_; (with_reducible repeat (first | refine blk_drewN ?_ _ | refine blk_drew ?_ | refine blk_alloc ?_ _ | apply qP2 | apply qP3 | refine blk_far ?_ (Aside0.out (by assumption)) _)); exact h_) : P := h hq
theorem qW {Q P : Prop} (hq : Q) (h : Q → P := by intro h_; (with_reducible repeat (first | refine blk_drewN ?_ _ | refine blk_drew ?_ | refine blk_alloc ?_ _ | apply qP2 | apply qP3 | refine blk_far ?_ (Aside0.out (by assumption)) _)); exact h_) : P := h hq
theorem qX {W0 W w1 : World} {g : Nat} {o : Obj} (h0 : W0.heap[g]? = some o) (hb : Below W.heap.size W w1) (h : W0.heap[g]? = some o → W.heap[g]? = some o := by intro h_; (with_reducible repeat (first | refine blk_drewN ?_ _ | refine blk_drew ?_ | refine blk_alloc ?_ _ | apply qP2 | apply qP3 | refine blk_far ?_ (Aside0.out (by assumption)) _)); exact h_) : w1.heap[g]? = some o := blk_below (h h0) hb
abbrev o1 : Bool := true
abbrev o0 : Bool := false
abbrev zA := @Aside0.mk
abbrev zB := @pw_below_drewN
abbrev zC := @below_drew1
abbrev zD := @below_alloc
abbrev zE := @below_set
abbrev zF := @blk_cell
abbrev zG := @blk_frozen
abbrev zH := @List.setIfInBounds_toArray
abbrev zI := @List.set_cons_zero
abbrev zJ := @List.set_cons_succ
abbrev zM := @keep_drew
abbrev zP := @List.length_drop
abbrev zQ := @List.length_take
abbrev zR := @List.map_toArray
abbrev zS := @List.map_cons
abbrev zT := @List.map_nil
abbrev zV := @below_step
abbrev zW := @below_size
abbrev zX := @blk_below
abbrev zY := @blk_drewN
abbrev zZ := @blk_alloc
abbrev zAq := @blk_drew
abbrev zBq := @KeepBut.trans
abbrev zCq := @World.block_lt_of_cell?
abbrev zFq := @decide_eq_true
abbrev zGq := @decide_eq_false
abbrev zJq := @gate_callee
abbrev zKq := @Option.some.inj
abbrev zLq := @Nat.ne_of_lt
abbrev zMq := @Nat.ne_of_gt
abbrev zNq := @Option.some.injEq
abbrev zOq := @Prod.mk.injEq
theorem eqA192 (d : Nat) (w : World) (x0 y0 : Int) (x1 y1 : Int) :
    (Op.equalIn (d + 2) 192 (.agg #[.int .i64 x0, .int .i64 x1]) (.agg #[.int .i64 y0, .int .i64 y1])).run Try.prog w = .ok (x0 == y0 && (x1 == y1)) w := by
  refine eqA_of Try.underlying192 (by kernel_rfl) ?_
  refine eqf_cons (by rfl) (by go_simp; rfl) (by go_simp; rfl) (by go_simp) ?_
  exact eqf_last (by rfl) (by go_simp; rfl) (by go_simp; rfl) (by go_simp)
def strict_Must.f (a0 : Option (Int × Int)) : Option (Int × Int) := if a0.isNone = true then (none) else (some ((a0.getD (0, 0)).1, (a0.getD (0, 0)).2))
set_option maxHeartbeats 8000000 in
set_option maxRecDepth 100000 in
theorem strict_Must.calls (a0 : Option (Int × Int)) (r1 : Int) (r2 : Int) (w : World) (h : strict_Must.f a0 = some (r1, r2)) :
    Calls Try.prog 127 #[errW a0] w fun e w' => e = .returned (.agg #[.int .i64 r1, .int .i64 r2]) ∧ Below w.heap.size w w' := by
  have hu192 := Try.underlying192
  have hu54 := Try.underlying54
  have hta : ∀ (v : Value) (W : World), (Instr.typeAssert (.iface 192 v) 54 192 false).run Try.prog W = .ok (v) W := fun v W => by rfl
  have HB := zA (Below.refl w.heap.size w)
  have H : (if a0.isNone = true then (none) else (some ((a0.getD (0, 0)).1, (a0.getD (0, 0)).2))) = some (r1, r2) := h
  clear h
  rcases a0 with _ | q102
  · have H1 : (none) = some (r1, r2) := by first | (rw [if_pos (show (none : Option (Int × Int)).isNone = true by rfl)] at H; exact H) | rfl
    clear H; have H := H1; clear H1; simp only [errW_none, errW_some]; exact absurd H (by simp)
  have H1 : (some (q102.1, q102.2)) = some (r1, r2) := by first | (rw [if_neg (show ¬ (some q102).isNone = true by simp)] at H; exact H) | rfl
  clear H
  have H := H1
  clear H1
  simp only [errW_none, errW_some]
  simp only [zNq, zOq] at H
  obtain ⟨rfl, rfl⟩ := H
  go_enter Try.func127, Try.ntmps127
  go_wp2_with (first | ((with_reducible refine gate_dst (N := 2) rfl ?_); refine box_event qr (N := 2) qr (cs := #[.int .i64 0, .int .i64 0]) (t := 192) qg ?_; intro gb101 hg w2 hbox hb; have n0_ := zA (zV qB hb); have n1_ := zA (hbox); have n2_ := zA ((qS : w.heap.size ≤ gb101)); have n3_ := zA ((qS : w.heap.size ≤ gb101)); clear HB; have HB := n0_; have BK101 := n1_; have GW101 := n2_; have GE101 := n3_; clear n0_ n1_ n2_ n3_ hb hbox hg; obtain ⟨_, _, _, _⟩ := qc2f BK101.out))
  refine bodyPost_ret (results_cell_row rfl _ _ gb101 192 #[.int .i64 q102.1, .int .i64 q102.2] (0, 0) _ rfl (qV BK101.out) Try.underlying192 rfl (by kernel_rfl)) rfl ?_
  exact ⟨qE, qB⟩
def api_Errno_Error.l0 : Nat → ByteArray → Int → Option (ByteArray)
  | 0, _, _ => none
  | k + 1, x3, x4 => if x4 > 0 then ((some (([(wrap64 (48 + (Int.tmod x4 10))) % 256] : List Int) : List Int)).bind fun y101 => (if (strOfNums y101).size + x3.size ≤ 9223372036854775807 then (api_Errno_Error.l0 k ((strOfNums y101) ++ x3) (wrap64 (Int.tdiv x4 10))) else (none))) else (if 6 + x3.size ≤ 9223372036854775807 then (some ((⟨#[101, 114, 114, 111, 114, 32]⟩ : ByteArray) ++ x3)) else (none))
def api_Errno_Error.f (k : Nat) (a0 : Int) : Option (ByteArray) := if a0 ≤ 0 then (some (⟨#[101, 114, 114, 111, 114, 32, 48]⟩ : ByteArray)) else (api_Errno_Error.l0 k (⟨#[]⟩ : ByteArray) a0)
theorem api_Errno_Error.mono_l : ∀ k, (∀ y0 y1, LeO (api_Errno_Error.l0 k y0 y1) (api_Errno_Error.l0 (k + 1) y0 y1))
  | 0 => fun _ _ r h => by simp [api_Errno_Error.l0] at h
  | k + 1 => by
    have ih0 := api_Errno_Error.mono_l k
    intro y0 y1
    unfold api_Errno_Error.l0
    repeat' first
    | (with_reducible exact ih0 _ _)
    | (with_reducible exact LeO.refl _)
    | (with_reducible exact LeO.none _)
    | (with_reducible refine LeO.ite ?_ ?_)
    | (with_reducible refine LeO.bind ?_ (fun _ => ?_))
    | exact ih0 _ _
    | exact LeO.none _
    | refine LeO.ite ?_ ?_
    | refine LeO.bind ?_ (fun _ => ?_)
theorem api_Errno_Error.mono : ∀ a0 k, LeO (api_Errno_Error.f k a0) (api_Errno_Error.f (k + 1) a0) := by
  intro a0 k
  have ih0 := api_Errno_Error.mono_l k
  unfold api_Errno_Error.f
  repeat' first
      | (with_reducible exact ih0 _ _)
      | (with_reducible exact LeO.refl _)
      | (with_reducible exact LeO.none _)
      | (with_reducible refine LeO.ite ?_ ?_)
      | (with_reducible refine LeO.bind ?_ (fun _ => ?_))
      | exact ih0 _ _
      | exact LeO.none _
      | refine LeO.ite ?_ ?_
      | refine LeO.bind ?_ (fun _ => ?_)
set_option maxHeartbeats 8000000 in
set_option maxRecDepth 100000 in
theorem api_Errno_Error.calls (k : Nat) (a0 : Int) (r : ByteArray) (w : World) (h : api_Errno_Error.f k a0 = some r) :
    Calls Try.prog 208 #[.int .i64 a0] w fun e w' => e = .returned (.string r) ∧ Below w.heap.size w w' := by
  have HB := zA (Below.refl w.heap.size w)
  have H : (if a0 ≤ 0 then (some (⟨#[101, 114, 114, 111, 114, 32, 48]⟩ : ByteArray)) else (api_Errno_Error.l0 k (⟨#[]⟩ : ByteArray) a0)) = some r := h
  clear h
  by_cases c2 : a0 ≤ 0
  · rw [if_pos c2] at H
    have c2b0 : decide (a0 ≤ 0) = true := zFq c2; clear c2; obtain rfl := zKq H; go_enter Try.func208, Try.ntmps208; go_wp2; go_ret; exact ⟨qE, qB⟩
  rw [if_neg c2] at H
  have c2b0 : decide (a0 ≤ 0) = false := zGq c2
  clear c2
  have H' := zA H
  clear H
  go_enter Try.func208, Try.ntmps208
  go_wp2
  go_loopg [3, 4] k (fun kq v3 v4 w' => ∃ (x3_1 : ByteArray) (x4_1 : Int), v3 = .string x3_1 ∧ v4 = .int .i64 x4_1 ∧ Aside0 (api_Errno_Error.l0 kq x3_1 x4_1 = some r) ∧ Aside0 (kq ≤ k) ∧ Aside0 (Below w.heap.size w w'))
  case atStart => exact ⟨((⟨#[]⟩ : ByteArray)), (a0), (by first | rfl | (simp; done) | (simp [*]; done)), (by first | rfl | (simp; done) | (simp [*]; done)), H', ⟨Nat.le_refl _⟩, ⟨qB⟩⟩
  case round =>
    clear H'; try clear c2
    try clear c2b0
    try clear p2
    obtain ⟨x3_1, x4_1, rfl, rfl, HA, HK1, HB⟩ := hrel; cases gk with
    | zero => exact absurd HA.out (by simp [api_Errno_Error.l0])
    | succ k1 =>
      have H := HA.out; clear HA; simp only [api_Errno_Error.l0] at H; by_cases c3 : x4_1 > 0
      · rw [if_pos c3] at H
        have c3b0 : decide (0 < x4_1) = true := zFq c3; clear c3; obtain ⟨y101, hy101⟩ : ∃ y_ : List Int, y_ = (([(wrap64 (48 + (Int.tmod x4_1 10))) % 256] : List Int)) := ⟨_, rfl⟩
        replace H : (if (strOfNums y101).size + x3_1.size ≤ 9223372036854775807 then (api_Errno_Error.l0 k1 ((strOfNums y101) ++ x3_1) (wrap64 (Int.tdiv x4_1 10))) else (none)) = some r := by first | (rw [hy101]; with_reducible exact H) | (have H2_ := (Option.bind_some _ _).symm.trans H; rw [hy101]; with_reducible exact H2_) | (have H2_ := (Option.bind_some _ _).symm.trans H; with_reducible exact H2_) | with_reducible exact H | (rw [hy101]; exact H) | exact H
        have Ny101 := zA hy101; clear hy101; by_cases c4 : (strOfNums y101).size + x3_1.size ≤ 9223372036854775807
        · rw [if_pos c4] at H
          have c4b0 := eq_true c4; have c4b1 : decide ((strOfNums y101).size + x3_1.size ≤ 9223372036854775807) = true := zFq c4; try have c4b2 : (9223372036854775807 < (strOfNums y101).size + x3_1.size) = False := eq_false (Nat.not_lt.2 c4)
          have H' := zA H; clear H; go_wp2_with (first | ((with_reducible refine gate_dst (N := 16) rfl ?_); refine Kd.R_lit (Kd.int .u8) _ 5 ?hg (N := 16) ?hd (xs := ([(wrap64 (48 + (Int.tmod x4_1 10))) % 256] : List Int)) (inner := [.int .u8 ((wrap64 (48 + (Int.tmod x4_1 10))) % 256)]) (ok := fun _ => True) (okp := fun _ => True) ?hr ?hp (fun _ hk => hk) trivial (Below.refl _ _) (Nat.le_refl _) (by simp) ?_; (case hd => rfl); (case hg => rfl); (case hr => first | (go_simp; done) | (go_simp; rfl)); (case hp => exact (Reps.one (show Kd.M (Kd.int .u8) _ _ _ ((wrap64 (48 + (Int.tmod x4_1 10))) % 256) [.int .u8 ((wrap64 (48 + (Int.tmod x4_1 10))) % 256)] from rfl) (Reps.none _ _))); intro v102 w5 ho6 hb hg_ hnew_; clear hg_ hnew_; (first | rw [← Ny101.out] at ho6 | (simp only [Int.reduceToNat] at ho6; rw [← Ny101.out] at ho6)); have n0_ := zA (Kd.R_lower ho6 (zW qB)); have n1_ := zA (zV qB hb); clear HB; have HO103 := n0_; have HB := n1_; clear n0_ n1_ hb ho6; have hcv7 := own_string (P := Try.prog) Try.underlying180 Try.underlying5 Try.underlying9 (Kd.own_of_R HO103.out))); go_roundg k1
          case measure => have := HK1.out; omega
          case rel => exact ⟨((strOfNums y101) ++ x3_1), (wrap64 (Int.tdiv x4_1 10)), (by first | rfl | (simp; done) | (simp [*]; done)), (by first | rfl | (simp; done) | (simp [*]; done)), H', ⟨by have := HK1.out; omega⟩, ⟨qB⟩⟩
        rw [if_neg c4] at H; exact absurd H (by simp)
      rw [if_neg c3] at H; have c3b0 : decide (0 < x4_1) = false := zGq c3; clear c3; by_cases c8 : 6 + x3_1.size ≤ 9223372036854775807
      · rw [if_pos c8] at H
        have c8b0 := eq_true c8; have c8b1 : decide (6 + x3_1.size ≤ 9223372036854775807) = true := zFq c8; try have c8b2 : (9223372036854775807 < 6 + x3_1.size) = False := eq_false (Nat.not_lt.2 c8)
        obtain rfl := zKq H; go_wp2; go_ret; exact ⟨qE, qB⟩
      rw [if_neg c8] at H; exact absurd H (by simp)
def strict_Fault_Error.f (k : Nat) (a0_0 : Int) (a0_1 : Int) : Option (ByteArray) := (api_Errno_Error.f k a0_0).bind fun t102 => (some t102)
theorem strict_Fault_Error.mono : ∀ a0 a1 k, LeO (strict_Fault_Error.f k a0 a1) (strict_Fault_Error.f (k + 1) a0 a1) := by
  intro a0 a1 k
  unfold strict_Fault_Error.f
  repeat' first
      | (with_reducible exact api_Errno_Error.mono _ _)
      | (with_reducible exact LeO.refl _)
      | (with_reducible exact LeO.none _)
      | (with_reducible refine LeO.ite ?_ ?_)
      | (with_reducible refine LeO.bind ?_ (fun _ => ?_))
      | exact api_Errno_Error.mono _ _
      | exact LeO.none _
      | refine LeO.ite ?_ ?_
      | refine LeO.bind ?_ (fun _ => ?_)
set_option maxHeartbeats 8000000 in
set_option maxRecDepth 100000 in
theorem strict_Fault_Error.calls (k : Nat) (a0_0 : Int) (a0_1 : Int) (r : ByteArray) (w : World) (h : strict_Fault_Error.f k a0_0 a0_1 = some r) :
    Calls Try.prog 128 #[.agg #[.int .i64 a0_0, .int .i64 a0_1]] w fun e w' => e = .returned (.string r) ∧ Below w.heap.size w w' := by
  have hu192 := Try.underlying192
  have HB := zA (Below.refl w.heap.size w)
  have H : ((api_Errno_Error.f k a0_0).bind fun t102 => (some t102)) = some r := h
  clear h
  replace H := Option.bind_eq_some_iff.mp H
  obtain ⟨t102, A20, H⟩ := H
  replace H : (some t102) = some r := H
  have A2 := zA A20
  clear A20
  obtain rfl := zKq H
  go_enter Try.func128, Try.ntmps128
  go_wp2_with (first | ((with_reducible refine gate_dst (N := 1) rfl ?_); refine box_event qr (N := 1) qr (cs := #[.int .i64 a0_0, .int .i64 a0_1]) (t := 192) qg ?_; intro gb101 hg w3 hbox hb; have n0_ := zA (zV qB hb); have n1_ := zA (hbox); have n2_ := zA ((qS : w.heap.size ≤ gb101)); have n3_ := zA ((qS : w.heap.size ≤ gb101)); clear HB; have HB := n0_; have BK101 := n1_; have GW101 := n2_; have GE101 := n3_; clear n0_ n1_ n2_ n3_ hb hbox hg; obtain ⟨_, _, _, _⟩ := qc2f BK101.out) | ((with_reducible refine zJq (f := 208) rfl ?_); refine goesL_ (some 5) rfl rfl Try.func208 (by kernel_rfl) rfl #[.int .i64 a0_0] rfl (by (try simp only [zR, zS, zT]); first | done | rfl | (simp only [zP, zQ]; rfl)) ?_; (with_reducible refine (api_Errno_Error.calls k a0_0 t102 _ A2.out).mono ?_); rintro e w5 ⟨rfl, hb⟩; refine ⟨_, rfl, ?_⟩; have n0_ := zA (qX BK101.out hb); have n1_ := zA (zV qB hb); clear BK101 HB; have BK101 := n0_; have HB := n1_; clear n0_ n1_; (try clear hb); (try clear hb2); (try clear hk); (try clear hi)))
  go_ret
  exact ⟨qE, qB⟩
def IsS56 (w0 W : World) (g : Nat) (f0 : ByteArray) (f1 : Int) (f2 : Option (Int × Int)) (f3 : Bool) : Prop := W.heap[g]? = some (.cells #[.string f0, .int .i64 f1, errW f2, .bool f3] 56 (0, 0)) ∧ w0.heap.size ≤ g
theorem IsS56.grown {w0 W : World} {g : Nat} {f0 : ByteArray} {f1 : Int} {f2 : Option (Int × Int)} {f3 : Bool} {W1 : World} {row : Option Nat} (h : IsS56 w0 W g f0 f1 f2 f3) (hw : W.grownBy W1 row) (hne : some g ≠ row) : IsS56 w0 W1 g f0 f1 f2 f3 := by
  obtain ⟨hb, hg⟩ := h
  exact ⟨blk_grown hb hw hne, hg⟩
theorem IsS56.kept {w0 W : World} {g : Nat} {f0 : ByteArray} {f1 : Int} {f2 : Option (Int × Int)} {f3 : Bool} {W1 : World} {S : Nat → Prop} (h : IsS56 w0 W g f0 f1 f2 f3) (hk : Kept W W1 S) (hne : ¬ S g) : IsS56 w0 W1 g f0 f1 f2 f3 := by
  obtain ⟨hb, hg⟩ := h
  exact ⟨blk_kept hb hk hne, hg⟩
theorem IsS56.below {w0 W : World} {g : Nat} {f0 : ByteArray} {f1 : Int} {f2 : Option (Int × Int)} {f3 : Bool} {W1 : World} (h : IsS56 w0 W g f0 f1 f2 f3) (hw : Below W.heap.size W W1) : IsS56 w0 W1 g f0 f1 f2 f3 := h.grown (grown_of_below hw none) (by simp)
theorem IsS56.alloc {w0 W : World} {g : Nat} {f0 : ByteArray} {f1 : Int} {f2 : Option (Int × Int)} {f3 : Bool} (h : IsS56 w0 W g f0 f1 f2 f3) (o : Obj) : IsS56 w0 (W.alloc o) g f0 f1 f2 f3 := h.below (zD (Below.refl _ _) o)
theorem IsS56.drewN {w0 W : World} {g : Nat} {f0 : ByteArray} {f1 : Int} {f2 : Option (Int × Int)} {f3 : Bool} (h : IsS56 w0 W g f0 f1 f2 f3) (m : Nat) : IsS56 w0 (W.drewN m) g f0 f1 f2 f3 := h
theorem IsS56.drew {w0 W : World} {g : Nat} {f0 : ByteArray} {f1 : Int} {f2 : Option (Int × Int)} {f3 : Bool} (h : IsS56 w0 W g f0 f1 f2 f3) : IsS56 w0 W.drew g f0 f1 f2 f3 := h
theorem IsS56.at_ {w0 W : World} {g : Nat} {f0 : ByteArray} {f1 : Int} {f2 : Option (Int × Int)} {f3 : Bool} {w' : World} {m : Nat} (hq : W.drewN m = w') (h : IsS56 w0 W g f0 f1 f2 f3) : IsS56 w0 w' g f0 f1 f2 f3 := by subst hq; exact IsS56.drewN h m
theorem IsS56.apart {w0 W : World} {g : Nat} {f0 : ByteArray} {f1 : Int} {f2 : Option (Int × Int)} {f3 : Bool} {α : Type} {d : Kd α} {e : Nat} {base : Nat} {ok : Nat → Prop} {v : Value} {xs : List α} (h : IsS56 w0 W g f0 f1 f2 f3) (ho : d.R e W base ok v xs) (ht : ∀ q, q ∈ e :: d.E → q ≠ 56) : d.R e W base (fun k => ok k ∧ k ≠ g) v xs := by
  obtain ⟨hb, hg⟩ := h
  exact Kd.R_types ho hb ht
theorem IsS56.own_ne {w0 W : World} {g : Nat} {f0 : ByteArray} {f1 : Int} {f2 : Option (Int × Int)} {f3 : Bool} {α : Type} {d : Kd α} {e : Nat} {base : Nat} {ok : Nat → Prop} {v : Value} {xs : List α} (h : IsS56 w0 W g f0 f1 f2 f3) (ho : d.R e W base ok v xs) (ht : e ≠ 56) : some g ≠ v.ownBlock := by
  obtain ⟨hb, hg⟩ := h
  exact Kd.R_ne ho hb ht
theorem IsS56.lt {w0 W : World} {g : Nat} {f0 : ByteArray} {f1 : Int} {f2 : Option (Int × Int)} {f3 : Bool} (h : IsS56 w0 W g f0 f1 f2 f3) : g < W.heap.size := by
  obtain ⟨hb, hg⟩ := h
  exact blk_lt hb
theorem IsS56.ge {w0 W : World} {g : Nat} {f0 : ByteArray} {f1 : Int} {f2 : Option (Int × Int)} {f3 : Bool} (h : IsS56 w0 W g f0 f1 f2 f3) : w0.heap.size ≤ g := by
  obtain ⟨hb, hg⟩ := h
  exact hg
theorem IsS56.ne_blk {w0 W : World} {g : Nat} {f0 : ByteArray} {f1 : Int} {f2 : Option (Int × Int)} {f3 : Bool} {a : Nat} {cs : Array Value} {t : TypeId} {fr : Nat × Nat} (h : IsS56 w0 W g f0 f1 f2 f3) (hb2 : W.heap[a]? = some (.cells cs t fr)) (ht : t ≠ 56) : g ≠ a := by
  obtain ⟨hb, hg⟩ := h
  rintro rfl
  rw [hb] at hb2
  injection hb2 with hb2
  injection hb2 with _ ht2
  exact ht ht2.symm
theorem IsS56.far {w0 W : World} {g : Nat} {f0 : ByteArray} {f1 : Int} {f2 : Option (Int × Int)} {f3 : Bool} {p : Addr} (h : IsS56 w0 W g f0 f1 f2 f3) (hne : g ≠ p.block) (u : Value) : IsS56 w0 (W.setCell p u) g f0 f1 f2 f3 := by
  obtain ⟨hb, hg⟩ := h
  exact ⟨blk_far hb hne u, hg⟩
theorem cellS56_0 {W : World} {g : Nat} {f0 : ByteArray} {f1 : Int} {f2 : Option (Int × Int)} {f3 : Bool} (h : W.heap[g]? = some (.cells #[.string f0, .int .i64 f1, errW f2, .bool f3] 56 (0, 0))) : W.cell? ⟨g, 0, none⟩ = some (.string f0) := (zF h 0).trans rfl
theorem IsS56.set_0 {w0 W : World} {g : Nat} {f0 : ByteArray} {f1 : Int} {f2 : Option (Int × Int)} {f3 : Bool} (h : IsS56 w0 W g f0 f1 f2 f3) (x : ByteArray) : IsS56 w0 (W.setCell ⟨g, 0, none⟩ (.string x)) g x f1 f2 f3 := by
  obtain ⟨hb, hg⟩ := h
  exact ⟨by simpa using blk_set hb 0 (.string x), hg⟩
theorem cellS56_1 {W : World} {g : Nat} {f0 : ByteArray} {f1 : Int} {f2 : Option (Int × Int)} {f3 : Bool} (h : W.heap[g]? = some (.cells #[.string f0, .int .i64 f1, errW f2, .bool f3] 56 (0, 0))) : W.cell? ⟨g, 1, none⟩ = some (.int .i64 f1) := (zF h 1).trans rfl
theorem IsS56.set_1 {w0 W : World} {g : Nat} {f0 : ByteArray} {f1 : Int} {f2 : Option (Int × Int)} {f3 : Bool} (h : IsS56 w0 W g f0 f1 f2 f3) (x : Int) : IsS56 w0 (W.setCell ⟨g, 1, none⟩ (.int .i64 x)) g f0 x f2 f3 := by
  obtain ⟨hb, hg⟩ := h
  exact ⟨by simpa using blk_set hb 1 (.int .i64 x), hg⟩
theorem cellS56_2 {W : World} {g : Nat} {f0 : ByteArray} {f1 : Int} {f2 : Option (Int × Int)} {f3 : Bool} (h : W.heap[g]? = some (.cells #[.string f0, .int .i64 f1, errW f2, .bool f3] 56 (0, 0))) : W.cell? ⟨g, 2, none⟩ = some (errW f2) := (zF h 2).trans rfl
theorem IsS56.set_2 {w0 W : World} {g : Nat} {f0 : ByteArray} {f1 : Int} {f2 : Option (Int × Int)} {f3 : Bool} (h : IsS56 w0 W g f0 f1 f2 f3) (x : Option (Int × Int)) : IsS56 w0 (W.setCell ⟨g, 2, none⟩ (errW x)) g f0 f1 x f3 := by
  obtain ⟨hb, hg⟩ := h
  exact ⟨by simpa using blk_set hb 2 (errW x), hg⟩
theorem IsS56.sete_2 {w0 W : World} {g : Nat} {f0 : ByteArray} {f1 : Int} {f2 : Option (Int × Int)} {f3 : Bool} {v_ : Value} (h : IsS56 w0 W g f0 f1 f2 f3) (x : Option (Int × Int)) (hv_ : v_ = errW x) : IsS56 w0 (W.setCell ⟨g, 2, none⟩ v_) g f0 f1 x f3 := by
  subst hv_
  exact IsS56.set_2 h x
theorem cellS56_3 {W : World} {g : Nat} {f0 : ByteArray} {f1 : Int} {f2 : Option (Int × Int)} {f3 : Bool} (h : W.heap[g]? = some (.cells #[.string f0, .int .i64 f1, errW f2, .bool f3] 56 (0, 0))) : W.cell? ⟨g, 3, none⟩ = some (.bool f3) := (zF h 3).trans rfl
theorem IsS56.set_3 {w0 W : World} {g : Nat} {f0 : ByteArray} {f1 : Int} {f2 : Option (Int × Int)} {f3 : Bool} (h : IsS56 w0 W g f0 f1 f2 f3) (x : Bool) : IsS56 w0 (W.setCell ⟨g, 3, none⟩ (.bool x)) g f0 f1 f2 x := by
  obtain ⟨hb, hg⟩ := h
  exact ⟨by simpa using blk_set hb 3 (.bool x), hg⟩
def strict_New.f (a0 : ByteArray) : Option (ByteArray × Int × Option (Int × Int) × Bool) := some (a0, 0, none, true)
set_option maxHeartbeats 8000000 in
set_option maxRecDepth 100000 in
theorem strict_New.calls (a0 : ByteArray) (r1 : ByteArray) (r2 : Int) (r3 : Option (Int × Int)) (r4 : Bool) (w0 w : World) (hB : Below w0.heap.size w0 w) (h : strict_New.f a0 = some (r1, r2, r3, r4)) :
    Calls Try.prog 36 #[.string a0] w fun e w' => ∃ g_ : Nat, e = .returned (.pointer (some ⟨g_, 0, none⟩)) ∧ IsS56 w0 w' g_ r1 r2 r3 r4 ∧ Below w0.heap.size w0 w' ∧ Below w.heap.size w w' := by
  have hu56 := Try.underlying56
  have HBW := zA (Below.refl w.heap.size w)
  have HW0 := zA hB.size
  have HB := zA hB
  clear hB
  have H : (some (a0, 0, none, true)) = some (r1, r2, r3, r4) := h
  clear h
  simp only [zNq, zOq] at H
  obtain ⟨rfl, rfl, rfl, rfl⟩ := H
  go_enter Try.func36, Try.ntmps36
  go_wp2_with (first | ((with_reducible refine gate_dst (N := 5) rfl ?_); refine box_event qr (N := 5) qr (cs := #[.string a0, .int .i64 0, errW none, .bool true]) (t := 56) qg ?_; intro gb101 hg w2 hbox hb; have n0_ := zA (zV HBW.out hb); have n1_ := zA (zV (qT HB.out) hb); have n2_ := zA (hbox); have n3_ := zA ((by rw [hg]; exact (zW (by repeat (first | (with_reducible first | exact HBW.out | apply zD | apply zB | apply zC) | exact HBW.out))) : w.heap.size ≤ gb101)); have n4_ := zA ((Nat.le_trans HW0.out (by rw [hg]; exact (zW (by repeat (first | (with_reducible first | exact HBW.out | apply zD | apply zB | apply zC) | exact HBW.out))) : w.heap.size ≤ gb101) : w0.heap.size ≤ gb101)); clear HBW HB; have HBW := n0_; have HB := n1_; have BK101 := n2_; have GW101 := n3_; have GE101 := n4_; clear n0_ n1_ n2_ n3_ n4_ hb hbox hg))
  go_ret
  exact ⟨_, rfl, (show IsS56 w0 _ gb101 a0 0 none true from ⟨by exact BK101.out, GE101.out⟩), (qT HB.out), by repeat (first | (with_reducible first | exact HBW.out | apply zD | apply zB | apply zC | refine zE ?_ GW101.out) | exact HBW.out)⟩
def strict_Why.f (a0 : Option (Int × Int)) : Option (Int × Int) := if a0.isNone = true then (some (0, 0)) else (some ((a0.getD (0, 0)).1, (a0.getD (0, 0)).2))
set_option maxHeartbeats 8000000 in
set_option maxRecDepth 100000 in
theorem strict_Why.calls (a0 : Option (Int × Int)) (r1 : Int) (r2 : Int) (w : World) (h : strict_Why.f a0 = some (r1, r2)) :
    Calls Try.prog 38 #[errW a0] w fun e w' => e = .returned (.tuple #[.int .i64 r1, .int .i64 r2]) ∧ Below w.heap.size w w' := by
  have hu192 := Try.underlying192
  have hu54 := Try.underlying54
  have hta : ∀ (v : Value) (W : World), (Instr.typeAssert (.iface 192 v) 54 192 true).run Try.prog W = .ok (.tuple #[v, .bool true]) W := fun v W => by rfl
  have HB := zA (Below.refl w.heap.size w)
  have H : (if a0.isNone = true then (some (0, 0)) else (some ((a0.getD (0, 0)).1, (a0.getD (0, 0)).2))) = some (r1, r2) := h
  clear h
  rcases a0 with _ | q101
  · have H1 : (some (0, 0)) = some (r1, r2) := by first | (rw [if_pos (show (none : Option (Int × Int)).isNone = true by rfl)] at H; exact H) | rfl
    clear H; have H := H1; clear H1; simp only [errW_none, errW_some]; simp only [zNq, zOq] at H; obtain ⟨rfl, rfl⟩ := H; go_enter Try.func38, Try.ntmps38; go_wp2; repeat (go_quiet (fail); try go_wp2)
    go_ret2; exact ⟨qE, qB⟩
  have H1 : (some (q101.1, q101.2)) = some (r1, r2) := by first | (rw [if_neg (show ¬ (some q101).isNone = true by simp)] at H; exact H) | rfl
  clear H
  have H := H1
  clear H1
  simp only [errW_none, errW_some]
  simp only [zNq, zOq] at H
  obtain ⟨rfl, rfl⟩ := H
  go_enter Try.func38, Try.ntmps38
  go_wp2_with (first | ((with_reducible refine gate_dst (N := 4) rfl ?_); refine box_event qr (N := 4) qr (cs := #[.int .i64 0, .int .i64 0]) (t := 192) qg ?_; intro gb102 hg w2 hbox hb; have n0_ := zA (zV qB hb); have n1_ := zA (hbox); have n2_ := zA ((qS : w.heap.size ≤ gb102)); have n3_ := zA ((qS : w.heap.size ≤ gb102)); clear HB; have HB := n0_; have BK102 := n1_; have GW102 := n2_; have GE102 := n3_; clear n0_ n1_ n2_ n3_ hb hbox hg; obtain ⟨hcz3_0, hcz3_1, hfz3_0, hfz3_1⟩ := qc2f BK102.out))
  repeat (go_quiet (first | ((with_reducible refine gate_dst (N := 4) rfl ?_); refine box_event qr (N := 4) qr (cs := #[.int .i64 0, .int .i64 0]) (t := 192) qg ?_; intro gb102 hg w2 hbox hb; have n0_ := zA (zV qB hb); have n1_ := zA (hbox); have n2_ := zA ((qS : w.heap.size ≤ gb102)); have n3_ := zA ((qS : w.heap.size ≤ gb102)); clear HB; have HB := n0_; have BK102 := n1_; have GW102 := n2_; have GE102 := n3_; clear n0_ n1_ n2_ n3_ hb hbox hg; obtain ⟨hcz3_0, hcz3_1, hfz3_0, hfz3_1⟩ := qc2f BK102.out)); try go_wp2_with (first | ((with_reducible refine gate_dst (N := 4) rfl ?_); refine box_event qr (N := 4) qr (cs := #[.int .i64 0, .int .i64 0]) (t := 192) qg ?_; intro gb102 hg w2 hbox hb; have n0_ := zA (zV qB hb); have n1_ := zA (hbox); have n2_ := zA ((qS : w.heap.size ≤ gb102)); have n3_ := zA ((qS : w.heap.size ≤ gb102)); clear HB; have HB := n0_; have BK102 := n1_; have GW102 := n2_; have GE102 := n3_; clear n0_ n1_ n2_ n3_ hb hbox hg; obtain ⟨hcz3_0, hcz3_1, hfz3_0, hfz3_1⟩ := qc2f BK102.out)))
  go_ret2
  exact ⟨qE, qB⟩
def strict_Reader_Err.f (s0_0 : ByteArray) (s0_1 : Int) (s0_2 : Option (Int × Int)) (s0_3 : Bool) : Option (Option (Int × Int) × ByteArray × Int × Option (Int × Int) × Bool) := if s0_3 = true then (some (s0_2, s0_0, s0_1, s0_2, s0_3)) else (some (some (1, 0), s0_0, s0_1, s0_2, s0_3))
theorem strict_Reader_Err.same {s0_0 : ByteArray} {s0_1 : Int} {s0_2 : Option (Int × Int)} {s0_3 : Bool} {r_ : Option (Int × Int)} {s0_0_ : ByteArray} {s0_1_ : Int} {s0_2_ : Option (Int × Int)} {s0_3_ : Bool} (h : strict_Reader_Err.f s0_0 s0_1 s0_2 s0_3 = some (r_, s0_0_, s0_1_, s0_2_, s0_3_)) : s0_0_ = s0_0 ∧ s0_1_ = s0_1 ∧ s0_2_ = s0_2 ∧ s0_3_ = s0_3 := by
  rcases s0_2 with _ | q_ <;> cases s0_3 <;> cases h <;> exact ⟨rfl, rfl, rfl, rfl⟩
set_option maxHeartbeats 8000000 in
set_option maxRecDepth 100000 in
theorem strict_Reader_Err.calls (g : Nat) (s0_0 : ByteArray) (s0_1 : Int) (s0_2 : Option (Int × Int)) (s0_3 : Bool) (r1 : Option (Int × Int)) (r2 : ByteArray) (r3 : Int) (r4 : Option (Int × Int)) (r5 : Bool) (w0 w : World) (hI : IsS56 w0 w g s0_0 s0_1 s0_2 s0_3) (hB : Below w0.heap.size w0 w) (h : strict_Reader_Err.f s0_0 s0_1 s0_2 s0_3 = some (r1, r2, r3, r4, r5)) :
    Calls Try.prog 39 #[.pointer (some ⟨g, 0, none⟩)] w fun e w' => e = .returned (errW r1) ∧ IsS56 w0 w' g r2 r3 r4 r5 ∧ Below w0.heap.size w0 w' ∧ KeepBut w w' g none := by
  have hu192 := Try.underlying192
  have hu54 := Try.underlying54
  have HI0 := zA hI
  have HK := zA (KeepBut.refl w g none)
  have HL := zA hB.size
  clear hI
  have HW0 := zA hB.size
  have HB := zA hB
  clear hB
  have H : (if s0_3 = true then (some (s0_2, s0_0, s0_1, s0_2, s0_3)) else (some (some (1, 0), s0_0, s0_1, s0_2, s0_3))) = some (r1, r2, r3, r4, r5) := h
  clear h
  by_cases c2 : s0_3 = true
  · subst c2
    have H1 : (some (s0_2, s0_0, s0_1, s0_2, true)) = some (r1, r2, r3, r4, r5) := by first | (rw [if_pos rfl] at H; exact H) | rfl
    clear H; have H := H1; clear H1; simp only [zNq, zOq] at H; obtain ⟨rfl, rfl, rfl, rfl, rfl⟩ := H; obtain ⟨HGz3, hgz3⟩ := HI0.out; have hcz3_0 := cellS56_0 HGz3; have hcz3_1 := cellS56_1 HGz3; have hcz3_2 := cellS56_2 HGz3; have hcz3_3 := cellS56_3 HGz3; have hfz3_0 := zG HGz3 0; have hfz3_1 := zG HGz3 1; have hfz3_2 := zG HGz3 2; have hfz3_3 := zG HGz3 3; clear HGz3 hgz3; try simp only [errW_none, errW_some] at hcz3_2
    go_enter Try.func39, Try.ntmps39; go_wp2; go_ret; exact ⟨qE, by repeat (first | (with_reducible first | exact HI0.out | apply IsS56.alloc | apply IsS56.drewN | apply IsS56.drew) | exact HI0.out), qH HI0.out HB.out, qJ HK.out⟩
  replace c2 := Bool.eq_false_iff.mpr c2
  subst c2
  have H1 : (some (some (1, 0), s0_0, s0_1, s0_2, false)) = some (r1, r2, r3, r4, r5) := by first | (rw [if_neg (show ¬ (false = true) by decide)] at H; exact H) | rfl
  clear H
  have H := H1
  clear H1
  simp only [zNq, zOq] at H
  obtain ⟨rfl, rfl, rfl, rfl, rfl⟩ := H
  obtain ⟨HGz4, hgz4⟩ := HI0.out
  have hcz4_0 := cellS56_0 HGz4; have hcz4_1 := cellS56_1 HGz4; have hcz4_2 := cellS56_2 HGz4; have hcz4_3 := cellS56_3 HGz4; have hfz4_0 := zG HGz4 0; have hfz4_1 := zG HGz4 1; have hfz4_2 := zG HGz4 2; have hfz4_3 := zG HGz4 3; clear HGz4 hgz4
  try simp only [errW_none, errW_some] at hcz4_2
  go_enter Try.func39, Try.ntmps39
  go_wp2
  go_ret
  exact ⟨qE, by repeat (first | (with_reducible first | exact HI0.out | apply IsS56.alloc | apply IsS56.drewN | apply IsS56.drew) | exact HI0.out), qH HI0.out HB.out, qJ HK.out⟩
def strict_Reader_At.f (s0_0 : ByteArray) (s0_1 : Int) (s0_2 : Option (Int × Int)) (s0_3 : Bool) : Option (Int × ByteArray × Int × Option (Int × Int) × Bool) := if s0_3 = true then (some (s0_1, s0_0, s0_1, s0_2, s0_3)) else (some (0, s0_0, s0_1, s0_2, s0_3))
theorem strict_Reader_At.same {s0_0 : ByteArray} {s0_1 : Int} {s0_2 : Option (Int × Int)} {s0_3 : Bool} {r_ : Int} {s0_0_ : ByteArray} {s0_1_ : Int} {s0_2_ : Option (Int × Int)} {s0_3_ : Bool} (h : strict_Reader_At.f s0_0 s0_1 s0_2 s0_3 = some (r_, s0_0_, s0_1_, s0_2_, s0_3_)) : s0_0_ = s0_0 ∧ s0_1_ = s0_1 ∧ s0_2_ = s0_2 ∧ s0_3_ = s0_3 := by
  rcases s0_2 with _ | q_ <;> cases s0_3 <;> cases h <;> exact ⟨rfl, rfl, rfl, rfl⟩
set_option maxHeartbeats 8000000 in
set_option maxRecDepth 100000 in
theorem strict_Reader_At.calls (g : Nat) (s0_0 : ByteArray) (s0_1 : Int) (s0_2 : Option (Int × Int)) (s0_3 : Bool) (r1 : Int) (r2 : ByteArray) (r3 : Int) (r4 : Option (Int × Int)) (r5 : Bool) (w0 w : World) (hI : IsS56 w0 w g s0_0 s0_1 s0_2 s0_3) (hB : Below w0.heap.size w0 w) (h : strict_Reader_At.f s0_0 s0_1 s0_2 s0_3 = some (r1, r2, r3, r4, r5)) :
    Calls Try.prog 40 #[.pointer (some ⟨g, 0, none⟩)] w fun e w' => e = .returned (.int .i64 r1) ∧ IsS56 w0 w' g r2 r3 r4 r5 ∧ Below w0.heap.size w0 w' ∧ KeepBut w w' g none := by
  have HI0 := zA hI
  have HK := zA (KeepBut.refl w g none)
  have HL := zA hB.size
  clear hI
  have HW0 := zA hB.size
  have HB := zA hB
  clear hB
  have H : (if s0_3 = true then (some (s0_1, s0_0, s0_1, s0_2, s0_3)) else (some (0, s0_0, s0_1, s0_2, s0_3))) = some (r1, r2, r3, r4, r5) := h
  clear h
  by_cases c2 : s0_3 = true
  · subst c2
    have H1 : (some (s0_1, s0_0, s0_1, s0_2, true)) = some (r1, r2, r3, r4, r5) := by first | (rw [if_pos rfl] at H; exact H) | rfl
    clear H; have H := H1; clear H1; simp only [zNq, zOq] at H; obtain ⟨rfl, rfl, rfl, rfl, rfl⟩ := H; obtain ⟨HGz3, hgz3⟩ := HI0.out; have hcz3_0 := cellS56_0 HGz3; have hcz3_1 := cellS56_1 HGz3; have hcz3_2 := cellS56_2 HGz3; have hcz3_3 := cellS56_3 HGz3; have hfz3_0 := zG HGz3 0; have hfz3_1 := zG HGz3 1; have hfz3_2 := zG HGz3 2; have hfz3_3 := zG HGz3 3; clear HGz3 hgz3; try simp only [errW_none, errW_some] at hcz3_2
    go_enter Try.func40, Try.ntmps40; go_wp2; go_ret; exact ⟨qE, by repeat (first | (with_reducible first | exact HI0.out | apply IsS56.alloc | apply IsS56.drewN | apply IsS56.drew) | exact HI0.out), qH HI0.out HB.out, qJ HK.out⟩
  replace c2 := Bool.eq_false_iff.mpr c2
  subst c2
  have H1 : (some (0, s0_0, s0_1, s0_2, false)) = some (r1, r2, r3, r4, r5) := by first | (rw [if_neg (show ¬ (false = true) by decide)] at H; exact H) | rfl
  clear H
  have H := H1
  clear H1
  simp only [zNq, zOq] at H
  obtain ⟨rfl, rfl, rfl, rfl, rfl⟩ := H
  obtain ⟨HGz4, hgz4⟩ := HI0.out
  have hcz4_0 := cellS56_0 HGz4; have hcz4_1 := cellS56_1 HGz4; have hcz4_2 := cellS56_2 HGz4; have hcz4_3 := cellS56_3 HGz4; have hfz4_0 := zG HGz4 0; have hfz4_1 := zG HGz4 1; have hfz4_2 := zG HGz4 2; have hfz4_3 := zG HGz4 3; clear HGz4 hgz4
  try simp only [errW_none, errW_some] at hcz4_2
  go_enter Try.func40, Try.ntmps40
  go_wp2
  go_ret
  exact ⟨qE, by repeat (first | (with_reducible first | exact HI0.out | apply IsS56.alloc | apply IsS56.drewN | apply IsS56.drew) | exact HI0.out), qH HI0.out HB.out, qJ HK.out⟩
def strict_Reader_goes.f (s0_0 : ByteArray) (s0_1 : Int) (s0_2 : Option (Int × Int)) (s0_3 : Bool) : Option (Bool × ByteArray × Int × Option (Int × Int) × Bool) := if s0_3 = true then (if s0_2.isNone = true then (some (true, s0_0, s0_1, none, s0_3)) else (some (false, s0_0, s0_1, some (s0_2.getD (0, 0)), s0_3))) else (some (false, s0_0, s0_1, s0_2, s0_3))
theorem strict_Reader_goes.same {s0_0 : ByteArray} {s0_1 : Int} {s0_2 : Option (Int × Int)} {s0_3 : Bool} {r_ : Bool} {s0_0_ : ByteArray} {s0_1_ : Int} {s0_2_ : Option (Int × Int)} {s0_3_ : Bool} (h : strict_Reader_goes.f s0_0 s0_1 s0_2 s0_3 = some (r_, s0_0_, s0_1_, s0_2_, s0_3_)) : s0_0_ = s0_0 ∧ s0_1_ = s0_1 ∧ s0_2_ = s0_2 ∧ s0_3_ = s0_3 := by
  rcases s0_2 with _ | q_ <;> cases s0_3 <;> cases h <;> exact ⟨rfl, rfl, rfl, rfl⟩
set_option maxHeartbeats 8000000 in
set_option maxRecDepth 100000 in
theorem strict_Reader_goes.calls (g : Nat) (s0_0 : ByteArray) (s0_1 : Int) (s0_2 : Option (Int × Int)) (s0_3 : Bool) (r1 : Bool) (r2 : ByteArray) (r3 : Int) (r4 : Option (Int × Int)) (r5 : Bool) (w0 w : World) (hI : IsS56 w0 w g s0_0 s0_1 s0_2 s0_3) (hB : Below w0.heap.size w0 w) (h : strict_Reader_goes.f s0_0 s0_1 s0_2 s0_3 = some (r1, r2, r3, r4, r5)) :
    Calls Try.prog 133 #[.pointer (some ⟨g, 0, none⟩)] w fun e w' => e = .returned (.bool r1) ∧ IsS56 w0 w' g r2 r3 r4 r5 ∧ Below w0.heap.size w0 w' ∧ KeepBut w w' g none := by
  have hu54 := Try.underlying54
  have hu192 := Try.underlying192
  have HI0 := zA hI
  have HK := zA (KeepBut.refl w g none)
  have HL := zA hB.size
  clear hI
  have HW0 := zA hB.size
  have HB := zA hB
  clear hB
  have H : (if s0_3 = true then (if s0_2.isNone = true then (some (true, s0_0, s0_1, none, s0_3)) else (some (false, s0_0, s0_1, some (s0_2.getD (0, 0)), s0_3))) else (some (false, s0_0, s0_1, s0_2, s0_3))) = some (r1, r2, r3, r4, r5) := h
  clear h
  by_cases c2 : s0_3 = true
  · subst c2
    have H1 : (if s0_2.isNone = true then (some (true, s0_0, s0_1, none, true)) else (some (false, s0_0, s0_1, some (s0_2.getD (0, 0)), true))) = some (r1, r2, r3, r4, r5) := by first | (rw [if_pos rfl] at H; exact H) | rfl
    clear H; have H := H1; clear H1; rcases s0_2 with _ | q101
    · have H1 : (some (true, s0_0, s0_1, none, true)) = some (r1, r2, r3, r4, r5) := by first | (rw [if_pos (show (none : Option (Int × Int)).isNone = true by rfl)] at H; exact H) | rfl
      clear H; have H := H1; clear H1; try simp only [errW_none, errW_some]
      simp only [zNq, zOq] at H; obtain ⟨rfl, rfl, rfl, rfl, rfl⟩ := H; obtain ⟨HGz3, hgz3⟩ := HI0.out; have hcz3_0 := cellS56_0 HGz3; have hcz3_1 := cellS56_1 HGz3; have hcz3_2 := cellS56_2 HGz3; have hcz3_3 := cellS56_3 HGz3; have hfz3_0 := zG HGz3 0; have hfz3_1 := zG HGz3 1; have hfz3_2 := zG HGz3 2; have hfz3_3 := zG HGz3 3; clear HGz3 hgz3; try simp only [errW_none, errW_some] at hcz3_2
      go_enter Try.func133, Try.ntmps133; go_wp2; go_ret; exact ⟨qE, by repeat (first | (with_reducible first | exact HI0.out | apply IsS56.alloc | apply IsS56.drewN | apply IsS56.drew) | exact HI0.out), qH HI0.out HB.out, qJ HK.out⟩
    have H1 : (some (false, s0_0, s0_1, some q101, true)) = some (r1, r2, r3, r4, r5) := by first | (rw [if_neg (show ¬ (some q101).isNone = true by simp)] at H; exact H) | rfl
    clear H; have H := H1; clear H1; try simp only [errW_none, errW_some]
    simp only [zNq, zOq] at H; obtain ⟨rfl, rfl, rfl, rfl, rfl⟩ := H; obtain ⟨HGz4, hgz4⟩ := HI0.out; have hcz4_0 := cellS56_0 HGz4; have hcz4_1 := cellS56_1 HGz4; have hcz4_2 := cellS56_2 HGz4; have hcz4_3 := cellS56_3 HGz4; have hfz4_0 := zG HGz4 0; have hfz4_1 := zG HGz4 1; have hfz4_2 := zG HGz4 2; have hfz4_3 := zG HGz4 3; clear HGz4 hgz4; try simp only [errW_none, errW_some] at hcz4_2
    go_enter Try.func133, Try.ntmps133; go_wp2; go_ret; exact ⟨qE, by repeat (first | (with_reducible first | exact HI0.out | apply IsS56.alloc | apply IsS56.drewN | apply IsS56.drew) | exact HI0.out), qH HI0.out HB.out, qJ HK.out⟩
  replace c2 := Bool.eq_false_iff.mpr c2
  subst c2
  have H1 : (some (false, s0_0, s0_1, s0_2, false)) = some (r1, r2, r3, r4, r5) := by first | (rw [if_neg (show ¬ (false = true) by decide)] at H; exact H) | rfl
  clear H
  have H := H1
  clear H1
  simp only [zNq, zOq] at H
  obtain ⟨rfl, rfl, rfl, rfl, rfl⟩ := H
  obtain ⟨HGz5, hgz5⟩ := HI0.out
  have hcz5_0 := cellS56_0 HGz5; have hcz5_1 := cellS56_1 HGz5; have hcz5_2 := cellS56_2 HGz5; have hcz5_3 := cellS56_3 HGz5; have hfz5_0 := zG HGz5 0; have hfz5_1 := zG HGz5 1; have hfz5_2 := zG HGz5 2; have hfz5_3 := zG HGz5 3; clear HGz5 hgz5
  try simp only [errW_none, errW_some] at hcz5_2
  go_enter Try.func133, Try.ntmps133
  go_wp2
  go_ret
  exact ⟨qE, by repeat (first | (with_reducible first | exact HI0.out | apply IsS56.alloc | apply IsS56.drewN | apply IsS56.drew) | exact HI0.out), qH HI0.out HB.out, qJ HK.out⟩
def octet_wide.f (a0 : Int) : Option (Bool) := if a0 = 1 then (some true) else (if a0 = 2 then (some true) else (if a0 = 4 then (some true) else (some (a0 == 8))))
set_option maxHeartbeats 8000000 in
set_option maxRecDepth 100000 in
theorem octet_wide.calls (a0 : Int) (r : Bool) (w : World) (h : octet_wide.f a0 = some r) :
    Calls Try.prog 156 #[.int .i64 a0] w fun e w' => e = .returned (.bool r) ∧ Drawn0 w w' := by
  have H : (if a0 = 1 then (some true) else (if a0 = 2 then (some true) else (if a0 = 4 then (some true) else (some (a0 == 8))))) = some r := h
  clear h
  by_cases c2 : a0 = 1
  · rw [if_pos c2] at H
    have c2b0 : (a0 == 1) = true := beq_iff_eq.mpr c2; have c2b1 : (a0 != 1) = false := bne_eq_false_iff_eq.mpr c2; clear c2; obtain rfl := zKq H; go_enter Try.func156, Try.ntmps156; go_wp2; go_ret; exact ⟨by first | rfl | (simp; done) | (simp [*]; done), by repeat (first | exact Drawn0.refl _ | apply Drawn0.step)⟩
  rw [if_neg c2] at H
  have c2b0 : (a0 == 1) = false := beq_eq_false_iff_ne.mpr c2
  have c2b1 : (a0 != 1) = true := bne_iff_ne.mpr c2
  by_cases c3 : a0 = 2
  · rw [if_pos c3] at H
    have c3b0 : (a0 == 2) = true := beq_iff_eq.mpr c3; have c3b1 : (a0 != 2) = false := bne_eq_false_iff_eq.mpr c3; clear c3; obtain rfl := zKq H; go_enter Try.func156, Try.ntmps156; go_wp2; go_ret; exact ⟨by first | rfl | (simp; done) | (simp [*]; done), by repeat (first | exact Drawn0.refl _ | apply Drawn0.step)⟩
  rw [if_neg c3] at H
  have c3b0 : (a0 == 2) = false := beq_eq_false_iff_ne.mpr c3
  have c3b1 : (a0 != 2) = true := bne_iff_ne.mpr c3
  by_cases c4 : a0 = 4
  · rw [if_pos c4] at H
    have c4b0 : (a0 == 4) = true := beq_iff_eq.mpr c4; have c4b1 : (a0 != 4) = false := bne_eq_false_iff_eq.mpr c4; clear c4; obtain rfl := zKq H; go_enter Try.func156, Try.ntmps156; go_wp2; go_ret; exact ⟨by first | rfl | (simp; done) | (simp [*]; done), by repeat (first | exact Drawn0.refl _ | apply Drawn0.step)⟩
  rw [if_neg c4] at H
  have c4b0 : (a0 == 4) = false := beq_eq_false_iff_ne.mpr c4
  have c4b1 : (a0 != 4) = true := bne_iff_ne.mpr c4
  obtain rfl := zKq H
  go_enter Try.func156, Try.ntmps156
  go_wp2
  go_ret
  exact ⟨by first | rfl | (simp; done) | (simp [*]; done), by repeat (first | exact Drawn0.refl _ | apply Drawn0.step)⟩
def octet_inside.f (a0 : ByteArray) (a1 : Int) : Option (Bool) := if a1 ≥ 0 then (some (decide (a1 ≤ (a0.size : Int)))) else (some false)
set_option maxHeartbeats 8000000 in
set_option maxRecDepth 100000 in
theorem octet_inside.calls (a0 : ByteArray) (a1 : Int) (r : Bool) (w : World) (h : octet_inside.f a0 a1 = some r) :
    Calls Try.prog 210 #[.string a0, .int .i64 a1] w fun e w' => e = .returned (.bool r) ∧ Drawn0 w w' := by
  have H : (if a1 ≥ 0 then (some (decide (a1 ≤ (a0.size : Int)))) else (some false)) = some r := h
  clear h
  by_cases c3 : a1 ≥ 0
  · rw [if_pos c3] at H
    have c3b0 : decide (0 ≤ a1) = true := zFq c3; clear c3; obtain rfl := zKq H; go_enter Try.func210, Try.ntmps210; go_wp2; go_ret; exact ⟨by first | rfl | (simp; done) | (simp [*]; done), by repeat (first | exact Drawn0.refl _ | apply Drawn0.step)⟩
  rw [if_neg c3] at H
  have c3b0 : decide (0 ≤ a1) = false := zGq c3
  clear c3
  obtain rfl := zKq H
  go_enter Try.func210, Try.ntmps210
  go_wp2
  go_ret
  exact ⟨by first | rfl | (simp; done) | (simp [*]; done), by repeat (first | exact Drawn0.refl _ | apply Drawn0.step)⟩
def octet_none_int_211.f (a0 : Int) : Option (Int × Int × Int) := some (0, 0, a0)
set_option maxHeartbeats 8000000 in
set_option maxRecDepth 100000 in
theorem octet_none_int_211.calls (a0 : Int) (r1 : Int) (r2 : Int) (r3 : Int) (w : World) (h : octet_none_int_211.f a0 = some (r1, r2, r3)) :
    Calls Try.prog 211 #[.int .i64 a0] w fun e w' => e = .returned (.tuple #[.agg #[.int .i64 r1, .int .i64 r2], .int .i64 r3]) ∧ Below w.heap.size w w' := by
  have hu202 := Try.underlying202
  have HB := zA (Below.refl w.heap.size w)
  have H : (some (0, 0, a0)) = some (r1, r2, r3) := h
  clear h
  simp only [zNq, zOq] at H
  obtain ⟨rfl, rfl, rfl⟩ := H
  go_enter Try.func211, Try.ntmps211
  go_wp2_with (first | ((with_reducible refine gate_dst (N := 2) rfl ?_); refine box_event qr (N := 2) qr (cs := #[.int .i64 0, .int .i64 0]) (t := 202) qg ?_; intro gb101 hg w2 hbox hb; have n0_ := zA (zV qB hb); have n1_ := zA (hbox); have n2_ := zA ((qS : w.heap.size ≤ gb101)); have n3_ := zA ((qS : w.heap.size ≤ gb101)); clear HB; have HB := n0_; have BK101 := n1_; have GW101 := n2_; have GE101 := n3_; clear n0_ n1_ n2_ n3_ hb hbox hg; obtain ⟨_, _, _, _⟩ := qc2f BK101.out))
  refine bodyPost_ret (results_ct rfl _ _ gb101 202 #[.int .i64 0, .int .i64 0] (0, 0) _ rfl (qV BK101.out) Try.underlying202 rfl (by kernel_rfl)) rfl ?_
  exact ⟨qE, qB⟩
def octet_got_int_212.f (a0 : Int) (a1 : Int) : Option (Int × Int × Int) := some (a0, a1, 0)
set_option maxHeartbeats 8000000 in
set_option maxRecDepth 100000 in
theorem octet_got_int_212.calls (a0 : Int) (a1 : Int) (r1 : Int) (r2 : Int) (r3 : Int) (w : World) (h : octet_got_int_212.f a0 a1 = some (r1, r2, r3)) :
    Calls Try.prog 212 #[.int .i64 a0, .int .i64 a1] w fun e w' => e = .returned (.tuple #[.agg #[.int .i64 r1, .int .i64 r2], .int .i64 r3]) ∧ Below w.heap.size w w' := by
  have hu202 := Try.underlying202
  have HB := zA (Below.refl w.heap.size w)
  have H : (some (a0, a1, 0)) = some (r1, r2, r3) := h
  clear h
  simp only [zNq, zOq] at H
  obtain ⟨rfl, rfl, rfl⟩ := H
  go_enter Try.func212, Try.ntmps212
  go_wp2_with (first | ((with_reducible refine gate_dst (N := 4) rfl ?_); refine box_event qr (N := 4) qr (cs := #[.int .i64 0, .int .i64 0]) (t := 202) qg ?_; intro gb101 hg w3 hbox hb; have n0_ := zA (zV qB hb); have n1_ := zA (hbox); have n2_ := zA ((qS : w.heap.size ≤ gb101)); have n3_ := zA ((qS : w.heap.size ≤ gb101)); clear HB; have HB := n0_; have BK101 := n1_; have GW101 := n2_; have GE101 := n3_; clear n0_ n1_ n2_ n3_ hb hbox hg; obtain ⟨_, _, _, _⟩ := qc2f BK101.out))
  refine bodyPost_ret (results_ct rfl _ _ gb101 202 #[.int .i64 a0, .int .i64 a1] (0, 0) _ rfl (qV BK101.out) Try.underlying202 rfl (by kernel_rfl)) rfl ?_
  exact ⟨qE, qB⟩
mutual
def octet_Get.j0 : Nat → ByteArray → Int → Int → Bool → Option (Int × Int × Int)
  | 0, _, _, _, _ => none
  | k + 1, x0, x1, x2, x10 => if x10 = true then ((octet_none_int_211.f 2).bind fun bt104 => (some (bt104.1, bt104.2.1, bt104.2.2))) else (if (wrap64 ((x0.size : Int) - x1)) < x2 then ((octet_none_int_211.f 4).bind fun bt107 => (some (bt107.1, bt107.2.1, bt107.2.2))) else (octet_Get.l0 k x0 x1 x2 0 x2 0))
def octet_Get.l0 : Nat → ByteArray → Int → Int → Int → Int → Int → Option (Int × Int × Int)
  | 0, _, _, _, _, _, _ => none
  | k + 1, x0, x1, x2, x8, x33, x34 => if x34 < x33 then (if 0 ≤ (wrap64 (x1 + x34)) then (if (wrap64 (x1 + x34)) < (x0.size : Int) then (octet_Get.l0 k x0 x1 x2 (Go.bits .or .u64 (IntKind.u64.wrap (x8 * 256)) (IntKind.u64.wrap (bt x0 (wrap64 (x1 + x34))))) x33 (wrap64 (x34 + 1))) else (none)) else (none)) else (if x8 > 9223372036854775807 then ((octet_none_int_211.f 8).bind fun bt110 => (some (bt110.1, bt110.2.1, bt110.2.2))) else ((octet_got_int_212.f (wrap64 (x8)) (wrap64 (x1 + x2))).bind fun bt113 => (some (bt113.1, bt113.2.1, bt113.2.2))))
end
def octet_Get.f (k : Nat) (a0 : ByteArray) (a1 : Int) (a2 : Int) : Option (Int × Int × Int) := (octet_wide.f a2).bind fun t102 => (if t102 = true then ((octet_inside.f a0 a1).bind fun t103 => (octet_Get.j0 k a0 a1 a2 (!t103))) else (octet_Get.j0 k a0 a1 a2 true))
theorem octet_Get.mono_l : ∀ k, (∀ y0 y1 y2 y3, LeO (octet_Get.j0 k y0 y1 y2 y3) (octet_Get.j0 (k + 1) y0 y1 y2 y3)) ∧ (∀ y0 y1 y2 y3 y4 y5, LeO (octet_Get.l0 k y0 y1 y2 y3 y4 y5) (octet_Get.l0 (k + 1) y0 y1 y2 y3 y4 y5))
  | 0 => ⟨fun _ _ _ _ r h => by simp [octet_Get.j0] at h, fun _ _ _ _ _ _ r h => by simp [octet_Get.l0] at h⟩
  | k + 1 => by
    obtain ⟨ih0, ih1⟩ := octet_Get.mono_l k
    refine ⟨?_, ?_⟩
    · intro y0 y1 y2 y3
      unfold octet_Get.j0
      repeat' first
      | (with_reducible exact ih0 _ _ _ _)
      | (with_reducible exact ih1 _ _ _ _ _ _)
      | (with_reducible exact LeO.refl _)
      | (with_reducible exact LeO.none _)
      | (with_reducible refine LeO.ite ?_ ?_)
      | (with_reducible refine LeO.bind ?_ (fun _ => ?_))
      | exact ih0 _ _ _ _
      | exact ih1 _ _ _ _ _ _
      | exact LeO.none _
      | refine LeO.ite ?_ ?_
      | refine LeO.bind ?_ (fun _ => ?_)
    intro y0 y1 y2 y3 y4 y5
    unfold octet_Get.l0
    repeat' first
    | (with_reducible exact ih0 _ _ _ _)
    | (with_reducible exact ih1 _ _ _ _ _ _)
    | (with_reducible exact LeO.refl _)
    | (with_reducible exact LeO.none _)
    | (with_reducible refine LeO.ite ?_ ?_)
    | (with_reducible refine LeO.bind ?_ (fun _ => ?_))
    | exact ih0 _ _ _ _
    | exact ih1 _ _ _ _ _ _
    | exact LeO.none _
    | refine LeO.ite ?_ ?_
    | refine LeO.bind ?_ (fun _ => ?_)
theorem octet_Get.mono : ∀ a0 a1 a2 k, LeO (octet_Get.f k a0 a1 a2) (octet_Get.f (k + 1) a0 a1 a2) := by
  intro a0 a1 a2 k
  obtain ⟨ih0, ih1⟩ := octet_Get.mono_l k
  unfold octet_Get.f
  repeat' first
      | (with_reducible exact ih0 _ _ _ _)
      | (with_reducible exact ih1 _ _ _ _ _ _)
      | (with_reducible exact LeO.refl _)
      | (with_reducible exact LeO.none _)
      | (with_reducible refine LeO.ite ?_ ?_)
      | (with_reducible refine LeO.bind ?_ (fun _ => ?_))
      | exact ih0 _ _ _ _
      | exact ih1 _ _ _ _ _ _
      | exact LeO.none _
      | refine LeO.ite ?_ ?_
      | refine LeO.bind ?_ (fun _ => ?_)
set_option maxHeartbeats 8000000 in
set_option maxRecDepth 100000 in
theorem octet_Get.calls (k : Nat) (a0 : ByteArray) (a1 : Int) (a2 : Int) (r1 : Int) (r2 : Int) (r3 : Int) (w : World) (h : octet_Get.f k a0 a1 a2 = some (r1, r2, r3)) :
    Calls Try.prog 134 #[.string a0, .int .i64 a1, .int .i64 a2] w fun e w' => e = .returned (.tuple #[.agg #[.int .i64 r1, .int .i64 r2], .int .i64 r3]) ∧ Below w.heap.size w w' := by
  have hu202 := Try.underlying202
  have HB := zA (Below.refl w.heap.size w)
  have H : ((octet_wide.f a2).bind fun t102 => (if t102 = true then ((octet_inside.f a0 a1).bind fun t103 => (octet_Get.j0 k a0 a1 a2 (!t103))) else (octet_Get.j0 k a0 a1 a2 true))) = some (r1, r2, r3) := h
  clear h
  have HC4 := zA H
  clear H
  go_enter Try.func134, Try.ntmps134
  go_upto_region 1 with (first | ((with_reducible refine gate_dst (N := 6) rfl ?_); refine box_event qr (N := 6) qr (cs := #[.int .i64 0, .int .i64 0]) (t := 202) qg ?_; intro gb101 hg w5 hbox hb; have n0_ := zA (zV qB hb); have n1_ := zA (hbox); have n2_ := zA ((qS : w.heap.size ≤ gb101)); have n3_ := zA ((qS : w.heap.size ≤ gb101)); clear HB; have HB := n0_; have BK101 := n1_; have GW101 := n2_; have GE101 := n3_; clear n0_ n1_ n2_ n3_ hb hbox hg))
  (try simp only [Act.put, zH, zI, zJ])
  go_cut [10] (fun v10 wc => ∃ (kq : Nat) (x10_3 : Bool), v10 = .bool x10_3 ∧ Aside0 (octet_Get.j0 kq a0 a1 a2 x10_3 = some (r1, r2, r3)) ∧ Aside0 (kq ≤ k) ∧ Aside0 (wc.heap[gb101]? = some (.cells #[.int .i64 0, .int .i64 0] 202 (0, 0))) ∧ Aside0 (Below w.heap.size w wc))
  case first =>
    have H := HC4.out; clear HC4; replace H := Option.bind_eq_some_iff.mp H; obtain ⟨t102, A60, H⟩ := H; replace H : (if t102 = true then ((octet_inside.f a0 a1).bind fun t103 => (octet_Get.j0 k a0 a1 a2 (!t103))) else (octet_Get.j0 k a0 a1 a2 true)) = some (r1, r2, r3) := H; have A6 := zA A60; clear A60; by_cases c7 : t102 = true
    · subst c7
      have H1 : ((octet_inside.f a0 a1).bind fun t103 => (octet_Get.j0 k a0 a1 a2 (!t103))) = some (r1, r2, r3) := by first | (rw [if_pos rfl] at H; exact H) | rfl
      clear H; have H := H1; clear H1; replace H := Option.bind_eq_some_iff.mp H; obtain ⟨t103, A80, H⟩ := H; replace H : (octet_Get.j0 k a0 a1 a2 (!t103)) = some (r1, r2, r3) := H; have A8 := zA A80; clear A80; have H' := zA H; clear H; go_wp2_with (first | ((with_reducible refine zJq (f := 156) rfl ?_); refine goesL_ (some 12) rfl rfl Try.func156 (by kernel_rfl) rfl #[.int .i64 a2] rfl (by (try simp only [zR, zS, zT]); first | done | rfl | (simp only [zP, zQ]; rfl)) ?_; (with_reducible refine (octet_wide.calls a2 true _ A6.out).mono ?_); rintro e w' ⟨rfl, ⟨nd, rfl⟩⟩; refine ⟨_, rfl, ?_⟩) | (go_at_call 210; (with_reducible refine (octet_inside.calls a0 a1 t103 _ A8.out).mono ?_); rintro e w' ⟨rfl, ⟨nd, rfl⟩⟩)); go_meet
      case rel => exact ⟨_, (!t103), (by first | rfl | (simp; done) | (simp [*]; done)), H', ⟨by first | omega | exact Nat.le_refl _⟩, ⟨by exact BK101.out⟩, ⟨qB⟩⟩
    replace c7 := Bool.eq_false_iff.mpr c7; subst c7; have H1 : (octet_Get.j0 k a0 a1 a2 true) = some (r1, r2, r3) := by first | (rw [if_neg (show ¬ (false = true) by decide)] at H; exact H) | rfl
    clear H; have H := H1; clear H1; have H' := zA H; clear H; go_wp2_with (first | ((with_reducible refine zJq (f := 156) rfl ?_); refine goesL_ (some 12) rfl rfl Try.func156 (by kernel_rfl) rfl #[.int .i64 a2] rfl (by (try simp only [zR, zS, zT]); first | done | rfl | (simp only [zP, zQ]; rfl)) ?_; (with_reducible refine (octet_wide.calls a2 false _ A6.out).mono ?_); rintro e w' ⟨rfl, ⟨nd, rfl⟩⟩; refine ⟨_, rfl, ?_⟩)); go_meet
    case rel => exact ⟨_, (true), (by first | rfl | (simp; done) | (simp [*]; done)), H', ⟨by first | omega | exact Nat.le_refl _⟩, ⟨by exact BK101.out⟩, ⟨qB⟩⟩
  case rest =>
    clear HC4; try clear c1
    try clear p2
    try clear c7
    obtain ⟨kq, x10_3, rfl, HA, HJ3, BK101, HB⟩ := hcut; cases kq with
    | zero => exact absurd HA.out (by simp [octet_Get.j0])
    | succ kj3 =>
      have H := HA.out; clear HA; simp only [octet_Get.j0] at H; by_cases c9 : x10_3 = true
      · subst c9
        have H1 : ((octet_none_int_211.f 2).bind fun bt104 => (some (bt104.1, bt104.2.1, bt104.2.2))) = some (r1, r2, r3) := by first | (rw [if_pos rfl] at H; exact H) | rfl
        clear H; have H := H1; clear H1; replace H := Option.bind_eq_some_iff.mp H; obtain ⟨⟨t104, t105, t106⟩, A100, H⟩ := H; replace H : (some (t104, t105, t106)) = some (r1, r2, r3) := H; have A10 := zA A100; clear A100; simp only [zNq, zOq] at H; obtain ⟨rfl, rfl, rfl⟩ := H; go_wp2_with (first | ((with_reducible refine zJq (f := 211) rfl ?_); refine goesL_ (some 20) rfl rfl Try.func211 (by kernel_rfl) rfl #[.int .i64 2] rfl (by (try simp only [zR, zS, zT]); first | done | rfl | (simp only [zP, zQ]; rfl)) ?_; (with_reducible refine (octet_none_int_211.calls 2 t104 t105 t106 _ A10.out).mono ?_); rintro e w11 ⟨rfl, hb⟩; refine ⟨_, rfl, ?_⟩; have n0_ := zA (qX BK101.out hb); have n1_ := zA (zV qB hb); clear BK101 HB; have BK101 := n0_; have HB := n1_; clear n0_ n1_; (try clear hb); (try clear hb2); (try clear hk); (try clear hi); obtain ⟨_, _, _, _⟩ := qc2f BK101.out)); refine bodyPost_ret (results_ct rfl _ _ gb101 202 #[.int .i64 t104, .int .i64 t105] (0, 0) _ rfl (qV BK101.out) Try.underlying202 rfl (by kernel_rfl)) rfl ?_; exact ⟨qE, qB⟩
      replace c9 := Bool.eq_false_iff.mpr c9; subst c9; have H1 : (if (wrap64 ((a0.size : Int) - a1)) < a2 then ((octet_none_int_211.f 4).bind fun bt107 => (some (bt107.1, bt107.2.1, bt107.2.2))) else (octet_Get.l0 kj3 a0 a1 a2 0 a2 0)) = some (r1, r2, r3) := by first | (rw [if_neg (show ¬ (false = true) by decide)] at H; exact H) | rfl
      clear H; have H := H1; clear H1; by_cases c13 : (wrap64 ((a0.size : Int) - a1)) < a2
      · rw [if_pos c13] at H
        have c13b0 : decide ((wrap64 ((a0.size : Int) - a1)) < a2) = true := zFq c13; clear c13; replace H := Option.bind_eq_some_iff.mp H; obtain ⟨⟨t107, t108, t109⟩, A140, H⟩ := H; replace H : (some (t107, t108, t109)) = some (r1, r2, r3) := H; have A14 := zA A140; clear A140; simp only [zNq, zOq] at H; obtain ⟨rfl, rfl, rfl⟩ := H; go_wp2_with (first | ((with_reducible refine zJq (f := 211) rfl ?_); refine goesL_ (some 30) rfl rfl Try.func211 (by kernel_rfl) rfl #[.int .i64 4] rfl (by (try simp only [zR, zS, zT]); first | done | rfl | (simp only [zP, zQ]; rfl)) ?_; (with_reducible refine (octet_none_int_211.calls 4 t107 t108 t109 _ A14.out).mono ?_); rintro e w15 ⟨rfl, hb⟩; refine ⟨_, rfl, ?_⟩; have n0_ := zA (qX BK101.out hb); have n1_ := zA (zV qB hb); clear BK101 HB; have BK101 := n0_; have HB := n1_; clear n0_ n1_; (try clear hb); (try clear hb2); (try clear hk); (try clear hi); obtain ⟨_, _, _, _⟩ := qc2f BK101.out)); refine bodyPost_ret (results_ct rfl _ _ gb101 202 #[.int .i64 t107, .int .i64 t108] (0, 0) _ rfl (qV BK101.out) Try.underlying202 rfl (by kernel_rfl)) rfl ?_; exact ⟨qE, qB⟩
      rw [if_neg c13] at H; have c13b0 : decide ((wrap64 ((a0.size : Int) - a1)) < a2) = false := zGq c13; clear c13; have H' := zA H; clear H; go_wp2; go_loopg [8, 34] kj3 (fun kq v8 v34 w' => ∃ (x8_2 : Int) (x34_2 : Int), v8 = .int .u64 x8_2 ∧ v34 = .int .i64 x34_2 ∧ Aside0 (octet_Get.l0 kq a0 a1 a2 x8_2 a2 x34_2 = some (r1, r2, r3)) ∧ Aside0 (kq ≤ kj3) ∧ Aside0 (w'.heap[gb101]? = some (.cells #[.int .i64 0, .int .i64 0] 202 (0, 0))) ∧ Aside0 (Below w.heap.size w w'))
      case atStart => exact ⟨(0), (0), (by first | rfl | (simp; done) | (simp [*]; done)), (by first | rfl | (simp; done) | (simp [*]; done)), H', ⟨Nat.le_refl _⟩, ⟨by exact BK101.out⟩, ⟨qB⟩⟩
      case round =>
        clear H'; try clear c1
        try clear c2
        try clear p2
        try clear p6
        try clear c7
        try clear c9
        try clear c13
        try clear c13b0
        try clear c15
        try clear p2
        obtain ⟨x8_2, x34_2, rfl, rfl, HA, HK2, BK101, HB⟩ := hrel; cases gk with
        | zero => exact absurd HA.out (by simp [octet_Get.l0])
        | succ k2 =>
          have H := HA.out; clear HA; simp only [octet_Get.l0] at H; by_cases c17 : x34_2 < a2
          · rw [if_pos c17] at H
            have c17b0 : decide (x34_2 < a2) = true := zFq c17; clear c17; obtain ⟨ji18, hji18⟩ : ∃ j_ : Int, (wrap64 (a1 + x34_2)) = j_ := ⟨_, rfl⟩
            replace H : (if 0 ≤ (ji18) then (if (ji18) < (a0.size : Int) then (octet_Get.l0 k2 a0 a1 a2 (Go.bits .or .u64 (IntKind.u64.wrap (x8_2 * 256)) (IntKind.u64.wrap (bt a0 (ji18)))) a2 (wrap64 (x34_2 + 1))) else (none)) else (none)) = some (r1, r2, r3) := by first | (rw [hji18] at H; exact H) | (simp only [hji18] at H ⊢; exact H)
            have hji18w : (IntKind.i64.wrap (a1 + x34_2)) = ji18 := (i64_w _).trans hji18; by_cases c19 : 0 ≤ (ji18)
            · rw [if_pos c19] at H
              have c19b0 : decide (0 ≤ (ji18)) = true := zFq c19; clear c19; by_cases c20 : (ji18) < (a0.size : Int)
              · rw [if_pos c20] at H
                have c20b0 : decide ((ji18) < (a0.size : Int)) = true := zFq c20; clear c20; have H' := zA H; clear H; have p21 : 0 ≤ ((ji18) : Int) := of_decide_eq_true qA; have q21 : (ji18) < (a0.size : Int) := of_decide_eq_true qA; have hx21 := bt_at a0 (ji18); replace p21 := eq_true p21; replace q21 := eq_true q21; go_wp2; go_roundg k2
                case measure => have := HJ3.out; have := HK2.out; omega
                case rel => exact ⟨(Go.bits .or .u64 (IntKind.u64.wrap (x8_2 * 256)) (IntKind.u64.wrap (bt a0 (ji18)))), (wrap64 (x34_2 + 1)), (by first | rfl | (simp; done) | (simp only [← hji18] <;> (first | rfl | simp)) | (simp [*]; done)), (by first | rfl | (simp; done) | (simp [*]; done)), H', ⟨by have := HJ3.out; have := HK2.out; omega⟩, ⟨by exact BK101.out⟩, ⟨qB⟩⟩
              rw [if_neg c20] at H; exact absurd H (by simp)
            rw [if_neg c19] at H; exact absurd H (by simp)
          rw [if_neg c17] at H; have c17b0 : decide (x34_2 < a2) = false := zGq c17; clear c17; by_cases c22 : x8_2 > 9223372036854775807
          · rw [if_pos c22] at H
            have c22b0 : decide (9223372036854775807 < x8_2) = true := zFq c22; clear c22; replace H := Option.bind_eq_some_iff.mp H; obtain ⟨⟨t110, t111, t112⟩, A230, H⟩ := H; replace H : (some (t110, t111, t112)) = some (r1, r2, r3) := H; have A23 := zA A230; clear A230; simp only [zNq, zOq] at H; obtain ⟨rfl, rfl, rfl⟩ := H; go_wp2_with (first | ((with_reducible refine zJq (f := 211) rfl ?_); refine goesL_ (some 49) rfl rfl Try.func211 (by kernel_rfl) rfl #[.int .i64 8] rfl (by (try simp only [zR, zS, zT]); first | done | rfl | (simp only [zP, zQ]; rfl)) ?_; (with_reducible refine (octet_none_int_211.calls 8 t110 t111 t112 _ A23.out).mono ?_); rintro e w24 ⟨rfl, hb⟩; refine ⟨_, rfl, ?_⟩; have n0_ := zA (qX BK101.out hb); have n1_ := zA (zV qB hb); clear BK101 HB; have BK101 := n0_; have HB := n1_; clear n0_ n1_; (try clear hb); (try clear hb2); (try clear hk); (try clear hi); obtain ⟨_, _, _, _⟩ := qc2f BK101.out)); refine bodyPost_ret (results_ct rfl _ _ gb101 202 #[.int .i64 t110, .int .i64 t111] (0, 0) _ rfl (qV BK101.out) Try.underlying202 rfl (by kernel_rfl)) rfl ?_; exact ⟨qE, qB⟩
          rw [if_neg c22] at H; have c22b0 : decide (9223372036854775807 < x8_2) = false := zGq c22; clear c22; replace H := Option.bind_eq_some_iff.mp H; obtain ⟨⟨t113, t114, t115⟩, A260, H⟩ := H; replace H : (some (t113, t114, t115)) = some (r1, r2, r3) := H; have A26 := zA A260; clear A260; simp only [zNq, zOq] at H; obtain ⟨rfl, rfl, rfl⟩ := H; go_wp2_with (first | ((with_reducible refine zJq (f := 212) rfl ?_); refine goesL_ (some 57) rfl rfl Try.func212 (by kernel_rfl) rfl #[.int .i64 (wrap64 (x8_2)), .int .i64 (wrap64 (a1 + a2))] rfl (by (try simp only [zR, zS, zT]); first | done | rfl | (simp only [zP, zQ]; rfl)) ?_; (with_reducible refine (octet_got_int_212.calls (wrap64 (x8_2)) (wrap64 (a1 + a2)) t113 t114 t115 _ A26.out).mono ?_); rintro e w27 ⟨rfl, hb⟩; refine ⟨_, rfl, ?_⟩; have n0_ := zA (qX BK101.out hb); have n1_ := zA (zV qB hb); clear BK101 HB; have BK101 := n0_; have HB := n1_; clear n0_ n1_; (try clear hb); (try clear hb2); (try clear hk); (try clear hi); obtain ⟨_, _, _, _⟩ := qc2f BK101.out)); refine bodyPost_ret (results_ct rfl _ _ gb101 202 #[.int .i64 t113, .int .i64 t114] (0, 0) _ rfl (qV BK101.out) Try.underlying202 rfl (by kernel_rfl)) rfl ?_; exact ⟨qE, qB⟩
def strict_Reader_done.f (s0_0 : ByteArray) (s0_1 : Int) (s0_2 : Option (Int × Int)) (s0_3 : Bool) (a1 : Int) (a2 : Int) : Option (Bool × ByteArray × Int × Option (Int × Int) × Bool) := if a2 = 0 then (some (true, s0_0, a1, s0_2, s0_3)) else (some (false, s0_0, s0_1, some (a2, s0_1), s0_3))
set_option maxHeartbeats 8000000 in
set_option maxRecDepth 100000 in
theorem strict_Reader_done.calls (g : Nat) (s0_0 : ByteArray) (s0_1 : Int) (s0_2 : Option (Int × Int)) (s0_3 : Bool) (a1 : Int) (a2 : Int) (r1 : Bool) (r2 : ByteArray) (r3 : Int) (r4 : Option (Int × Int)) (r5 : Bool) (w0 w : World) (hI : IsS56 w0 w g s0_0 s0_1 s0_2 s0_3) (hB : Below w0.heap.size w0 w) (h : strict_Reader_done.f s0_0 s0_1 s0_2 s0_3 a1 a2 = some (r1, r2, r3, r4, r5)) :
    Calls Try.prog 135 #[.pointer (some ⟨g, 0, none⟩), .int .i64 a1, .int .i64 a2] w fun e w' => e = .returned (.bool r1) ∧ IsS56 w0 w' g r2 r3 r4 r5 ∧ Below w0.heap.size w0 w' ∧ KeepBut w w' g none := by
  have hu192 := Try.underlying192
  have hu54 := Try.underlying54
  have HI0 := zA hI
  have HK := zA (KeepBut.refl w g none)
  have HL := zA hB.size
  clear hI
  have HW0 := zA hB.size
  have HB := zA hB
  clear hB
  have H : (if a2 = 0 then (some (true, s0_0, a1, s0_2, s0_3)) else (some (false, s0_0, s0_1, some (a2, s0_1), s0_3))) = some (r1, r2, r3, r4, r5) := h
  clear h
  by_cases c4 : a2 = 0
  · rw [if_pos c4] at H
    have c4b0 : (a2 == 0) = true := beq_iff_eq.mpr c4; have c4b1 : (a2 != 0) = false := bne_eq_false_iff_eq.mpr c4; clear c4; simp only [zNq, zOq] at H; obtain ⟨rfl, rfl, rfl, rfl, rfl⟩ := H; obtain ⟨HGz5, hgz5⟩ := HI0.out; have hcz5_0 := cellS56_0 HGz5; have hcz5_1 := cellS56_1 HGz5; have hcz5_2 := cellS56_2 HGz5; have hcz5_3 := cellS56_3 HGz5; have hfz5_0 := zG HGz5 0; have hfz5_1 := zG HGz5 1; have hfz5_2 := zG HGz5 2; have hfz5_3 := zG HGz5 3; clear HGz5 hgz5; try simp only [errW_none, errW_some] at hcz5_2
    go_enter Try.func135, Try.ntmps135; go_wp2; go_ret; exact ⟨qE, by repeat (first | (with_reducible first | exact HI0.out | apply IsS56.alloc | apply IsS56.drewN | apply IsS56.drew | apply IsS56.set_0 | apply IsS56.set_1 | apply IsS56.set_2 | apply IsS56.set_3 | apply IsS56.sete_2 | with_unfolding_all rfl) | exact HI0.out), qH HI0.out HB.out, qJ HK.out⟩
  rw [if_neg c4] at H
  have c4b0 : (a2 == 0) = false := beq_eq_false_iff_ne.mpr c4
  have c4b1 : (a2 != 0) = true := bne_iff_ne.mpr c4
  simp only [zNq, zOq] at H
  obtain ⟨rfl, rfl, rfl, rfl, rfl⟩ := H
  obtain ⟨HGz6, hgz6⟩ := HI0.out
  have hcz6_0 := cellS56_0 HGz6; have hcz6_1 := cellS56_1 HGz6; have hcz6_2 := cellS56_2 HGz6; have hcz6_3 := cellS56_3 HGz6; have hfz6_0 := zG HGz6 0; have hfz6_1 := zG HGz6 1; have hfz6_2 := zG HGz6 2; have hfz6_3 := zG HGz6 3; clear HGz6 hgz6
  try simp only [errW_none, errW_some] at hcz6_2
  go_enter Try.func135, Try.ntmps135
  go_wp2
  go_ret
  exact ⟨qE, by repeat (first | (with_reducible first | exact HI0.out | apply IsS56.alloc | apply IsS56.drewN | apply IsS56.drew | apply IsS56.set_0 | apply IsS56.set_1 | apply IsS56.set_2 | apply IsS56.set_3 | apply IsS56.sete_2 | with_unfolding_all rfl) | exact HI0.out), qH HI0.out HB.out, qJ HK.out⟩
def strict_Reader_Num.j0 : Nat → Int → Bool → ByteArray → Int → Option (Int × Int) → Bool → Int → Int → Option (Int × ByteArray × Int × Option (Int × Int) × Bool)
  | 0, _, _, _, _, _, _, _, _ => none
  | k + 1, x8, x32, x1000, x1001, x1002, x1003, x110000, x110001 => if x32 = true then ((strict_Reader_done.f x1000 x1001 x1002 x1003 x110001 3).bind fun bt110 => (if bt110.1 = true then (some (x110000, bt110.2.1, bt110.2.2.1, bt110.2.2.2.1, bt110.2.2.2.2)) else (some (0, bt110.2.1, bt110.2.2.1, bt110.2.2.2.1, bt110.2.2.2.2)))) else ((strict_Reader_done.f x1000 x1001 x1002 x1003 x110001 x8).bind fun bt115 => (if bt115.1 = true then (some (x110000, bt115.2.1, bt115.2.2.1, bt115.2.2.2.1, bt115.2.2.2.2)) else (some (0, bt115.2.1, bt115.2.2.1, bt115.2.2.2.1, bt115.2.2.2.2))))
def strict_Reader_Num.f (k : Nat) (s0_0 : ByteArray) (s0_1 : Int) (s0_2 : Option (Int × Int)) (s0_3 : Bool) (a1 : Int) (a2 : Int) : Option (Int × ByteArray × Int × Option (Int × Int) × Bool) := (strict_Reader_goes.f s0_0 s0_1 s0_2 s0_3).bind fun bt101 => (if bt101.1 = true then ((octet_Get.f k bt101.2.1 bt101.2.2.1 a1).bind fun bt106 => (if bt106.2.2 = 0 then (strict_Reader_Num.j0 k bt106.2.2 (decide (bt106.1 > a2)) bt101.2.1 bt101.2.2.1 bt101.2.2.2.1 bt101.2.2.2.2 bt106.1 bt106.2.1) else (strict_Reader_Num.j0 k bt106.2.2 false bt101.2.1 bt101.2.2.1 bt101.2.2.2.1 bt101.2.2.2.2 bt106.1 bt106.2.1))) else (some (0, bt101.2.1, bt101.2.2.1, bt101.2.2.2.1, bt101.2.2.2.2)))
theorem strict_Reader_Num.mono_l : ∀ k, (∀ y0 y1 y2 y3 y4 y5 y6 y7, LeO (strict_Reader_Num.j0 k y0 y1 y2 y3 y4 y5 y6 y7) (strict_Reader_Num.j0 (k + 1) y0 y1 y2 y3 y4 y5 y6 y7))
  | 0 => fun _ _ _ _ _ _ _ _ r h => by simp [strict_Reader_Num.j0] at h
  | k + 1 => by
    have ih0 := strict_Reader_Num.mono_l k
    intro y0 y1 y2 y3 y4 y5 y6 y7
    unfold strict_Reader_Num.j0
    repeat' first
    | (with_reducible exact ih0 _ _ _ _ _ _ _ _)
    | (with_reducible exact octet_Get.mono _ _ _ _)
    | (with_reducible exact LeO.refl _)
    | (with_reducible exact LeO.none _)
    | (with_reducible refine LeO.ite ?_ ?_)
    | (with_reducible refine LeO.bind ?_ (fun _ => ?_))
    | exact ih0 _ _ _ _ _ _ _ _
    | exact octet_Get.mono _ _ _ _
    | exact LeO.none _
    | refine LeO.ite ?_ ?_
    | refine LeO.bind ?_ (fun _ => ?_)
theorem strict_Reader_Num.mono : ∀ a0 a1 a2 a3 a4 a5 k, LeO (strict_Reader_Num.f k a0 a1 a2 a3 a4 a5) (strict_Reader_Num.f (k + 1) a0 a1 a2 a3 a4 a5) := by
  intro a0 a1 a2 a3 a4 a5 k
  have ih0 := strict_Reader_Num.mono_l k
  unfold strict_Reader_Num.f
  repeat' first
      | (with_reducible exact ih0 _ _ _ _ _ _ _ _)
      | (with_reducible exact octet_Get.mono _ _ _ _)
      | (with_reducible exact LeO.refl _)
      | (with_reducible exact LeO.none _)
      | (with_reducible refine LeO.ite ?_ ?_)
      | (with_reducible refine LeO.bind ?_ (fun _ => ?_))
      | exact ih0 _ _ _ _ _ _ _ _
      | exact octet_Get.mono _ _ _ _
      | exact LeO.none _
      | refine LeO.ite ?_ ?_
      | refine LeO.bind ?_ (fun _ => ?_)
def strict_Reader_Num.T3 : Bool × List (List Nat × List Nat) := (true, [([], []), ([0], [0]), ([1], [1]), ([2], [2]), ([], []), ([4], [4]), ([5], [5]), ([6], [6]), ([], []), ([3, 7, 8], [3, 7, 8]), ([9], [9]), ([10], [10]), ([10], [10]), ([], []), ([13, 11, 9, 0, 1, 2, 3, 4, 5, 6, 7, 8, 9, 10, 11, 13], [11, 13]), ([12, 14, 0, 1, 2, 3, 4, 5, 6, 7, 8, 9, 10, 11, 12, 13, 14], [12])])
def strict_Reader_Num.B3 : List Nat := [0, 1, 3, 7, 0, 16, 48, 112, 0, 511, 1023, 2047, 2047, 0, 12287, 32767]
theorem strict_Reader_Num.tab3 : rtab .any (opsOf Try.f41 3) = strict_Reader_Num.T3 := by kernel_rfl
theorem strict_Reader_Num.bits3 : waitsOk strict_Reader_Num.T3.2 strict_Reader_Num.B3 = true := by kernel_rfl
set_option maxHeartbeats 8000000 in
set_option maxRecDepth 100000 in
theorem strict_Reader_Num.calls (k : Nat) (g : Nat) (s0_0 : ByteArray) (s0_1 : Int) (s0_2 : Option (Int × Int)) (s0_3 : Bool) (a1 : Int) (a2 : Int) (r1 : Int) (r2 : ByteArray) (r3 : Int) (r4 : Option (Int × Int)) (r5 : Bool) (w0 w : World) (hI : IsS56 w0 w g s0_0 s0_1 s0_2 s0_3) (hB : Below w0.heap.size w0 w) (h : strict_Reader_Num.f k s0_0 s0_1 s0_2 s0_3 a1 a2 = some (r1, r2, r3, r4, r5)) :
    Calls Try.prog 41 #[.pointer (some ⟨g, 0, none⟩), .int .i64 a1, .int .i64 a2] w fun e w' => e = .returned (.int .i64 r1) ∧ IsS56 w0 w' g r2 r3 r4 r5 ∧ Below w0.heap.size w0 w' ∧ KeepBut w w' g none := by
  have hu202 := Try.underlying202
  have HI0 := zA hI
  have HK := zA (KeepBut.refl w g none)
  have HL := zA hB.size
  clear hI
  have HW0 := zA hB.size
  have HB := zA hB
  clear hB
  have H : ((strict_Reader_goes.f s0_0 s0_1 s0_2 s0_3).bind fun bt101 => (if bt101.1 = true then ((octet_Get.f k bt101.2.1 bt101.2.2.1 a1).bind fun bt106 => (if bt106.2.2 = 0 then (strict_Reader_Num.j0 k bt106.2.2 (decide (bt106.1 > a2)) bt101.2.1 bt101.2.2.1 bt101.2.2.2.1 bt101.2.2.2.2 bt106.1 bt106.2.1) else (strict_Reader_Num.j0 k bt106.2.2 false bt101.2.1 bt101.2.2.1 bt101.2.2.2.1 bt101.2.2.2.2 bt106.1 bt106.2.1))) else (some (0, bt101.2.1, bt101.2.2.1, bt101.2.2.2.1, bt101.2.2.2.2)))) = some (r1, r2, r3, r4, r5) := h
  clear h
  replace H := Option.bind_eq_some_iff.mp H
  obtain ⟨⟨t101, s0_0, s0_1, s0_2, s0_3⟩, A40, H⟩ := H
  obtain ⟨rfl, rfl, rfl, rfl⟩ := strict_Reader_goes.same A40
  replace H : (if t101 = true then ((octet_Get.f k s0_0 s0_1 a1).bind fun bt106 => (if bt106.2.2 = 0 then (strict_Reader_Num.j0 k bt106.2.2 (decide (bt106.1 > a2)) s0_0 s0_1 s0_2 s0_3 bt106.1 bt106.2.1) else (strict_Reader_Num.j0 k bt106.2.2 false s0_0 s0_1 s0_2 s0_3 bt106.1 bt106.2.1))) else (some (0, s0_0, s0_1, s0_2, s0_3))) = some (r1, r2, r3, r4, r5) := H
  have A4 := zA A40
  clear A40
  by_cases c5 : t101 = true
  · subst c5
    have H1 : ((octet_Get.f k s0_0 s0_1 a1).bind fun bt106 => (if bt106.2.2 = 0 then (strict_Reader_Num.j0 k bt106.2.2 (decide (bt106.1 > a2)) s0_0 s0_1 s0_2 s0_3 bt106.1 bt106.2.1) else (strict_Reader_Num.j0 k bt106.2.2 false s0_0 s0_1 s0_2 s0_3 bt106.1 bt106.2.1))) = some (r1, r2, r3, r4, r5) := by first | (rw [if_pos rfl] at H; exact H) | rfl
    clear H; have H := H1; clear H1; replace H := Option.bind_eq_some_iff.mp H; obtain ⟨⟨t106, t107, t108⟩, A60, H⟩ := H; replace H : (if t108 = 0 then (strict_Reader_Num.j0 k t108 (decide (t106 > a2)) s0_0 s0_1 s0_2 s0_3 t106 t107) else (strict_Reader_Num.j0 k t108 false s0_0 s0_1 s0_2 s0_3 t106 t107)) = some (r1, r2, r3, r4, r5) := H; have A6 := zA A60; clear A60; have HC7 := zA H; clear H; go_enter Try.func41, Try.ntmps41; try go_wp2_with (first | ((with_reducible refine zJq (f := 133) rfl ?_); refine goesL_ (some 10) rfl rfl Try.func133 (by kernel_rfl) rfl #[.pointer (some ⟨g, 0, none⟩)] rfl (by (try simp only [zR, zS, zT]); first | done | rfl | (simp only [zP, zQ]; rfl)) ?_; (with_reducible refine (strict_Reader_goes.calls g s0_0 s0_1 s0_2 s0_3 true s0_0 s0_1 s0_2 s0_3 w0 _ ?side1 ?side2 A4.out).mono ?_); (case side1 => repeat (first | (with_reducible first | exact HI0.out | apply IsS56.alloc | apply IsS56.drewN | apply IsS56.drew) | exact HI0.out)); (case side2 => repeat (first | (with_reducible first | exact HB.out | apply zD | apply zB | apply zC | refine zE ?_ (IsS56.ge HI0.out)) | exact HB.out)); rintro e w8 ⟨rfl, hi, hb, hk⟩; refine ⟨_, rfl, ?_⟩; have n0_ := zA (zBq (qJ HK.out) hk (.inl rfl)); have n1_ := zA (hb); have n2_ := zA (hi); clear HK HB HI0; have HK := n0_; have HB := n1_; have HI0 := n2_; clear n0_ n1_ n2_; (try clear hb); (try clear hb2); (try clear hk); (try clear hi); (try simp only [errW_none, errW_some]); have BKp0 : Aside0 (w8.heap[g]? = some (.cells #[.string s0_0, .int .i64 s0_1, errW s0_2, .bool s0_3] 56 (0, 0))) := ⟨by obtain ⟨hb_, _⟩ := HI0.out; exact hb_⟩))
    have n0_ := zA (zAq BKp0.out); have n1_ := zA (IsS56.drew HI0.out); have n2_ := zA (zM HK.out); have n3_ := zA (zC HB.out); clear BKp0; clear HI0; clear HK; clear HB; have BKp0 := n0_; have HI0 := n1_; have HK := n2_; have HB := n3_; clear n0_ n1_ n2_ n3_; refine start_ (n := 16) (S := fun w' => w'.cell? ⟨g, 0, none⟩ = some (.string s0_0) ∧ w'.cell? ⟨g, 1, none⟩ = some (.int .i64 s0_1) ∧ w'.cell? ⟨g, 2, none⟩ = some (errW s0_2) ∧ w'.cell? ⟨g, 3, none⟩ = some (.bool s0_3)) (ds := []) #[o0, o0, o0, o0, o0, o0, o0, o0, o0, o0, o0, o0, o0, o0, o0, o0] (by kernel_rfl) rfl rfl ⟨(zF BKp0.out 0).trans rfl, (zF BKp0.out 1).trans rfl, (zF BKp0.out 2).trans rfl, (zF BKp0.out 3).trans rfl⟩ (fun hHeld => ?_); refine with_tabW strict_Reader_Num.tab3 strict_Reader_Num.bits3 (fun HT_ HW_ => ?_); generalize w8.drew = w9 at BKp0 HI0 HK HB hHeld ⊢; refine pure_ (i := 0) (N := some 13) #[o1, o0, o0, o0, o0, o0, o0, o0, o0, o0, o0, o0, o0, o0, o0, o0] rfl rfl (any_of HT_.out (by kernel_rfl)) (fun _ _ _ h => h) (Or.inl ⟨by rfl, qy⟩) qz ?_; refine pure_ (i := 1) (N := some 14) #[o1, o1, o0, o0, o0, o0, o0, o0, o0, o0, o0, o0, o0, o0, o0, o0] rfl rfl (any_of HT_.out (by kernel_rfl)) (fun _ _ _ h => h) (Or.inl ⟨by rfl, qy⟩) qz ?_; refine pure_ (i := 2) (N := some 15) #[o1, o1, o1, o0, o0, o0, o0, o0, o0, o0, o0, o0, o0, o0, o0, o0] rfl rfl (any_of HT_.out (by kernel_rfl)) (fun _ _ _ h => h) (Or.inl ⟨by rfl, qy⟩) qz ?_; refine pure_ (i := 4) (N := some 17) #[o1, o1, o1, o0, o1, o0, o0, o0, o0, o0, o0, o0, o0, o0, o0, o0] rfl rfl (any_of HT_.out (by kernel_rfl)) (fun _ _ _ h => h) (Or.inl ⟨by rfl, qy⟩) qz ?_; refine pure_ (i := 5) (N := some 18) #[o1, o1, o1, o0, o1, o1, o0, o0, o0, o0, o0, o0, o0, o0, o0, o0] rfl rfl (any_of HT_.out (by kernel_rfl)) (fun _ _ _ h => h) (Or.inl ⟨by rfl, qy⟩) qz ?_; refine pure_ (i := 6) (N := some 19) #[o1, o1, o1, o0, o1, o1, o1, o0, o0, o0, o0, o0, o0, o0, o0, o0] rfl rfl (any_of HT_.out (by kernel_rfl)) (fun _ _ _ h => h) (Or.inl ⟨by rfl, qy⟩) qz ?_; refine pure_ (i := 8) (N := some 21) #[o1, o1, o1, o0, o1, o1, o1, o0, o1, o0, o0, o0, o0, o0, o0, o0] rfl rfl (any_of HT_.out (by kernel_rfl)) (fun _ _ _ h => h) (Or.inl ⟨by rfl, qy⟩) qz ?_; refine take_ (i := 3) (N := some 16) (v := ?_) (a' := ?_) #[o1, o1, o1, o1, o1, o1, o1, o0, o1, o0, o0, o0, o0, o0, o0, o0] rfl rfl (take_ofW HT_.out HW_.out (by kernel_rfl)) (fun _ _ _ h => h) (Or.inl ⟨by rfl, ?_⟩) hHeld ?_ ?_; rotate_left
    · rintro w' ⟨s0, s1, s2, s3⟩
      go_simp; with_reducible rfl
    rotate_left
    · simp only [Act.put, zH, zI, zJ, i64_w, i32_w]
      rfl
    refine take_ (i := 7) (N := some 20) (v := ?_) (a' := ?_) #[o1, o1, o1, o1, o1, o1, o1, o1, o1, o0, o0, o0, o0, o0, o0, o0] rfl rfl (take_ofW HT_.out HW_.out (by kernel_rfl)) (fun _ _ _ h => h) (Or.inl ⟨by rfl, ?_⟩) hHeld ?_ ?_; rotate_left
    · rintro w' ⟨s0, s1, s2, s3⟩
      go_simp; with_reducible rfl
    rotate_left
    · simp only [Act.put, zH, zI, zJ, i64_w, i32_w]
      rfl
    refine join_ (σ := Nat) 2 #[o1, o1, o1, o1, o1, o1, o1, o1, o1, o1, o1, o1, o1, o1, o0, o0] (fun s_ => [(22, .tuple #[.agg #[.int .i64 t106, .int .i64 t107], .int .i64 t108]), (7, .pointer (some ⟨s_, 0, none⟩)), (12, .tuple #[.agg #[.int .i64 t106, .int .i64 t107], .int .i64 t108]), (23, .agg #[.int .i64 t106, .int .i64 t107]), (24, .int .i64 t108)]) (fun s_ w' => (w'.cell? ⟨g, 0, none⟩ = some (.string s0_0) ∧ w'.cell? ⟨g, 1, none⟩ = some (.int .i64 s0_1) ∧ w'.cell? ⟨g, 2, none⟩ = some (errW s0_2) ∧ w'.cell? ⟨g, 3, none⟩ = some (.bool s0_3)) ∧ (w'.heap[s_]? = some (.cells #[.int .i64 0, .int .i64 0] 202 (0, 0))) ∧ (w'.heap[g]? = some (.cells #[.string s0_0, .int .i64 s0_1, errW s0_2, .bool s0_3] 56 (0, 0))) ∧ (w.heap.size ≤ s_) ∧ (w0.heap.size ≤ s_) ∧ (g ≠ s_) ∧ (s_ ≠ g) ∧ (IsS56 w0 w' g s0_0 s0_1 s0_2 s0_3) ∧ (KeepBut w w' g none) ∧ (Below w0.heap.size w0 w')) ?_ ?_; rotate_left
    · intro hCont
      refine two_ (i := 9) (j := 13) (Ni := some 22) (Nj := some 7) #[o1, o1, o1, o1, o1, o1, o1, o1, o1, o1, o0, o0, o0, o0, o0, o0] #[o1, o1, o1, o1, o1, o1, o1, o1, o1, o0, o0, o0, o0, o1, o0, o0] rfl rfl rfl rfl (two_of HT_.out (by kernel_rfl)) (by decide) (by decide) (fun K hK => ?_) (fun K hK => ?_)
      · skip
        refine goes_ Try.func134 (by kernel_rfl) rfl #[.string s0_0, .int .i64 s0_1, .int .i64 a1] (by rfl) rfl rfl (by (try simp only [zR, zS, zT]); first | done | rfl | (simp only [zP, zQ]; rfl)) ?_; with_reducible refine (octet_Get.calls k s0_0 s0_1 a1 t106 t107 t108 _ A6.out).mono ?_
        rintro e w10 ⟨rfl, hb⟩; refine ⟨_, rfl, ?_⟩; have n0_ := zA (IsS56.below (by repeat (first | (with_reducible first | exact HI0.out | apply IsS56.alloc | apply IsS56.drewN | apply IsS56.drew | refine IsS56.far ?_ NB0_0.out _) | exact HI0.out)) hb); have n1_ := zA (qX BKp0.out hb); have n2_ := zA (zBq (qJ HK.out) (KeepBut.of_below hb g none) (.inl rfl)); have n3_ := zA (zV (qH HI0.out HB.out) hb); clear HI0; clear BKp0; clear HK; clear HB; have HI0 := n0_; have BKp0 := n1_; have HK := n2_; have HB := n3_; clear n0_ n1_ n2_ n3_; (try clear hb); (try clear hb2); (try clear hk); (try clear hi); refine hK.out _ _ ⟨(zF BKp0.out 0).trans rfl, (zF BKp0.out 1).trans rfl, (zF BKp0.out 2).trans rfl, (zF BKp0.out 3).trans rfl⟩ (fun hHeld => ?_); clear hK K; refine norm_ (a' := ?_) ?_ ?_; rotate_left
        · show Act.put _ (some 22) _ = _
          simp only [Act.put, zH, zI, zJ, i64_w, i32_w]; rfl
        refine pure_ (i := 10) (N := some 12) #[o1, o1, o1, o1, o1, o1, o1, o1, o1, o1, o1, o0, o0, o0, o0, o0] rfl rfl (any_of HT_.out (by kernel_rfl)) (fun _ _ _ h => h) (Or.inl ⟨by rfl, qy⟩) qz ?_; refine pure_ (i := 11) (N := some 23) #[o1, o1, o1, o1, o1, o1, o1, o1, o1, o1, o1, o1, o0, o0, o0, o0] rfl rfl (any_of HT_.out (by kernel_rfl)) (fun _ _ _ h => h) (Or.inl ⟨by rfl, qy⟩) qz ?_; refine pure_ (i := 12) (N := some 24) #[o1, o1, o1, o1, o1, o1, o1, o1, o1, o1, o1, o1, o1, o0, o0, o0] rfl rfl (any_of HT_.out (by kernel_rfl)) (fun _ _ _ h => h) (Or.inl ⟨by rfl, qy⟩) qz ?_; refine one_ (i := 13) (N := some 7) #[o1, o1, o1, o1, o1, o1, o1, o1, o1, o1, o1, o1, o1, o1, o0, o0] rfl rfl (one_of HT_.out (by kernel_rfl)) (by decide) (fun K hK => ?_); refine box_step ?hg (N := 7) ?hd (cs := #[.int .i64 0, .int .i64 0]) (t := 202) ?hr ?_; (case hd => rfl); (case hg => rfl); (case hr => first | (go_simp; done) | (go_simp; rfl)); intro gb109 hg w11 hbox hb; have n0_ := zA (IsS56.below (by repeat (first | (with_reducible first | exact HI0.out | apply IsS56.alloc | apply IsS56.drewN | apply IsS56.drew | refine IsS56.far ?_ NB0_0.out _) | exact HI0.out)) hb); have n1_ := zA (qX BKp0.out hb); have n2_ := zA (zBq (qJ HK.out) (KeepBut.of_below hb g none) (.inl rfl)); have n3_ := zA (zV (qH HI0.out HB.out) hb); have n4_ := zA (hbox); have n5_ := zA ((by rw [hg]; exact (keep_size (w := w) (g := g) (row := none) (qJ HK.out)) : w.heap.size ≤ gb109)); have n6_ := zA ((Nat.le_trans HW0.out (by rw [hg]; exact (keep_size (w := w) (g := g) (row := none) (qJ HK.out)) : w.heap.size ≤ gb109) : w0.heap.size ≤ gb109)); have n7_ := zA ((by rw [hg]; exact zLq (qL BKp0.out) : g ≠ gb109)); have n8_ := zA ((by rw [hg]; exact zMq (qL BKp0.out) : gb109 ≠ g)); have n9_ := zA ((by rw [hg]; exact zLq (IsS56.lt (show IsS56 w0 _ g s0_0 s0_1 s0_2 s0_3 from by repeat (first | (with_reducible first | exact HI0.out | apply IsS56.alloc | apply IsS56.drewN | apply IsS56.drew | refine IsS56.far ?_ NB0_0.out _) | exact HI0.out))) : g ≠ gb109)); have n10_ := zA ((by rw [hg]; exact zMq (IsS56.lt (show IsS56 w0 _ g s0_0 s0_1 s0_2 s0_3 from by repeat (first | (with_reducible first | exact HI0.out | apply IsS56.alloc | apply IsS56.drewN | apply IsS56.drew | refine IsS56.far ?_ NB0_0.out _) | exact HI0.out))) : gb109 ≠ g)); clear HI0; clear BKp0; clear HK; clear HB; have HI0 := n0_; have BKp0 := n1_; have HK := n2_; have HB := n3_; have BK109 := n4_; have GW109 := n5_; have GE109 := n6_; have NB0_109 := n7_; have NB109_0 := n8_; have NB0_109 := n9_; have NB109_0 := n10_; clear n0_ n1_ n2_ n3_ n4_ n5_ n6_ n7_ n8_ n9_ n10_; clear hb hbox hg; refine hK.out _ _ ⟨(zF BKp0.out 0).trans rfl, (zF BKp0.out 1).trans rfl, (zF BKp0.out 2).trans rfl, (zF BKp0.out 3).trans rfl⟩ (fun hHeld => ?_)
        clear hK K; refine norm_ (a' := ?_) ?_ ?_; rotate_left
        · show Act.put _ (some 7) _ = _
          simp only [Act.put, zH, zI, zJ, i64_w, i32_w]; rfl
        exact norm_ (by simp only [putAll, Act.put, zH, zI, zJ]) (hCont (gb109) _ ⟨hHeld, (qW BK109.out), (qW BKp0.out), GW109.out, GE109.out, NB0_109.out, NB109_0.out, (by repeat (first | (with_reducible first | exact HI0.out | apply IsS56.alloc | apply IsS56.drewN | apply IsS56.drew | refine IsS56.far ?_ NB0_0.out _ | refine IsS56.far ?_ NB0_109.out _) | exact HI0.out)), (qJ HK.out), (qH HI0.out HB.out)⟩)
      skip; refine box_step ?hg (N := 7) ?hd (cs := #[.int .i64 0, .int .i64 0]) (t := 202) ?hr ?_; (case hd => rfl); (case hg => rfl); (case hr => first | (go_simp; done) | (go_simp; rfl)); intro gb109 hg w10 hbox hb; have n0_ := zA (IsS56.below (by repeat (first | (with_reducible first | exact HI0.out | apply IsS56.alloc | apply IsS56.drewN | apply IsS56.drew | refine IsS56.far ?_ NB0_0.out _) | exact HI0.out)) hb); have n1_ := zA (qX BKp0.out hb); have n2_ := zA (zBq (qJ HK.out) (KeepBut.of_below hb g none) (.inl rfl)); have n3_ := zA (zV (qH HI0.out HB.out) hb); have n4_ := zA (hbox); have n5_ := zA ((by rw [hg]; exact (keep_size (w := w) (g := g) (row := none) (qJ HK.out)) : w.heap.size ≤ gb109)); have n6_ := zA ((Nat.le_trans HW0.out (by rw [hg]; exact (keep_size (w := w) (g := g) (row := none) (qJ HK.out)) : w.heap.size ≤ gb109) : w0.heap.size ≤ gb109)); have n7_ := zA ((by rw [hg]; exact zLq (qL BKp0.out) : g ≠ gb109)); have n8_ := zA ((by rw [hg]; exact zMq (qL BKp0.out) : gb109 ≠ g)); have n9_ := zA ((by rw [hg]; exact zLq (IsS56.lt (show IsS56 w0 _ g s0_0 s0_1 s0_2 s0_3 from by repeat (first | (with_reducible first | exact HI0.out | apply IsS56.alloc | apply IsS56.drewN | apply IsS56.drew | refine IsS56.far ?_ NB0_0.out _) | exact HI0.out))) : g ≠ gb109)); have n10_ := zA ((by rw [hg]; exact zMq (IsS56.lt (show IsS56 w0 _ g s0_0 s0_1 s0_2 s0_3 from by repeat (first | (with_reducible first | exact HI0.out | apply IsS56.alloc | apply IsS56.drewN | apply IsS56.drew | refine IsS56.far ?_ NB0_0.out _) | exact HI0.out))) : gb109 ≠ g)); clear HI0; clear BKp0; clear HK; clear HB; have HI0 := n0_; have BKp0 := n1_; have HK := n2_; have HB := n3_; have BK109 := n4_; have GW109 := n5_; have GE109 := n6_; have NB0_109 := n7_; have NB109_0 := n8_; have NB0_109 := n9_; have NB109_0 := n10_; clear n0_ n1_ n2_ n3_ n4_ n5_ n6_ n7_ n8_ n9_ n10_; clear hb hbox hg; refine hK.out _ _ ⟨(zF BKp0.out 0).trans rfl, (zF BKp0.out 1).trans rfl, (zF BKp0.out 2).trans rfl, (zF BKp0.out 3).trans rfl⟩ (fun hHeld => ?_); clear hK K; refine norm_ (a' := ?_) ?_ ?_; rotate_left
      · show Act.put _ (some 7) _ = _
        simp only [Act.put, zH, zI, zJ, i64_w, i32_w]; rfl
      refine one_ (i := 9) (N := some 22) #[o1, o1, o1, o1, o1, o1, o1, o1, o1, o1, o0, o0, o0, o1, o0, o0] rfl rfl (one_of HT_.out (by kernel_rfl)) (by decide) (fun K hK => ?_); refine goes_ Try.func134 (by kernel_rfl) rfl #[.string s0_0, .int .i64 s0_1, .int .i64 a1] (by rfl) rfl rfl (by (try simp only [zR, zS, zT]); first | done | rfl | (simp only [zP, zQ]; rfl)) ?_; with_reducible refine (octet_Get.calls k s0_0 s0_1 a1 t106 t107 t108 _ A6.out).mono ?_
      rintro e w11 ⟨rfl, hb⟩; refine ⟨_, rfl, ?_⟩; have n0_ := zA (IsS56.below (by repeat (first | (with_reducible first | exact HI0.out | apply IsS56.alloc | apply IsS56.drewN | apply IsS56.drew | refine IsS56.far ?_ NB0_0.out _ | refine IsS56.far ?_ NB0_109.out _) | exact HI0.out)) hb); have n1_ := zA (qX BKp0.out hb); have n2_ := zA (qX BK109.out hb); have n3_ := zA (zBq (qJ HK.out) (KeepBut.of_below hb g none) (.inl rfl)); have n4_ := zA (zV (qH HI0.out HB.out) hb); clear HI0; clear BKp0; clear BK109; clear HK; clear HB; have HI0 := n0_; have BKp0 := n1_; have BK109 := n2_; have HK := n3_; have HB := n4_; clear n0_ n1_ n2_ n3_ n4_; (try clear hb); (try clear hb2); (try clear hk); (try clear hi); refine hK.out _ _ ⟨(zF BKp0.out 0).trans rfl, (zF BKp0.out 1).trans rfl, (zF BKp0.out 2).trans rfl, (zF BKp0.out 3).trans rfl⟩ (fun hHeld => ?_); clear hK K; refine norm_ (a' := ?_) ?_ ?_; rotate_left
      · show Act.put _ (some 22) _ = _
        simp only [Act.put, zH, zI, zJ, i64_w, i32_w]; rfl
      refine pure_ (i := 10) (N := some 12) #[o1, o1, o1, o1, o1, o1, o1, o1, o1, o1, o1, o0, o0, o1, o0, o0] rfl rfl (any_of HT_.out (by kernel_rfl)) (fun _ _ _ h => h) (Or.inl ⟨by rfl, qy⟩) qz ?_; refine pure_ (i := 11) (N := some 23) #[o1, o1, o1, o1, o1, o1, o1, o1, o1, o1, o1, o1, o0, o1, o0, o0] rfl rfl (any_of HT_.out (by kernel_rfl)) (fun _ _ _ h => h) (Or.inl ⟨by rfl, qy⟩) qz ?_; refine pure_ (i := 12) (N := some 24) #[o1, o1, o1, o1, o1, o1, o1, o1, o1, o1, o1, o1, o1, o1, o0, o0] rfl rfl (any_of HT_.out (by kernel_rfl)) (fun _ _ _ h => h) (Or.inl ⟨by rfl, qy⟩) qz ?_; exact norm_ (by simp only [putAll, Act.put, zH, zI, zJ]) (hCont (gb109) _ ⟨hHeld, (qW BK109.out), (qW BKp0.out), GW109.out, GE109.out, NB0_109.out, NB109_0.out, (by repeat (first | (with_reducible first | exact HI0.out | apply IsS56.alloc | apply IsS56.drewN | apply IsS56.drew | refine IsS56.far ?_ NB0_0.out _ | refine IsS56.far ?_ NB0_109.out _) | exact HI0.out)), (qJ HK.out), (qH HI0.out HB.out)⟩)
    rintro gb109 w12 ⟨hS_, h0_, h1_, h2_, h3_, h4_, h5_, h6_, h7_, h8_⟩; have n0_ : Aside0 (w12.heap[gb109]? = some (.cells #[.int .i64 0, .int .i64 0] 202 (0, 0))) := ⟨h0_⟩
    have n1_ : Aside0 (w12.heap[g]? = some (.cells #[.string s0_0, .int .i64 s0_1, errW s0_2, .bool s0_3] 56 (0, 0))) := ⟨h1_⟩
    have n2_ : Aside0 (w.heap.size ≤ gb109) := ⟨h2_⟩
    have n3_ : Aside0 (w0.heap.size ≤ gb109) := ⟨h3_⟩
    have n4_ : Aside0 (g ≠ gb109) := ⟨h4_⟩
    have n5_ : Aside0 (gb109 ≠ g) := ⟨h5_⟩
    have n6_ : Aside0 (IsS56 w0 w12 g s0_0 s0_1 s0_2 s0_3) := ⟨h6_⟩
    have n7_ : Aside0 (KeepBut w w12 g none) := ⟨h7_⟩
    have n8_ : Aside0 (Below w0.heap.size w0 w12) := ⟨h8_⟩
    clear BKp0; clear HI0; clear HK; clear HB; clear h0_ h1_ h2_ h3_ h4_ h5_ h6_ h7_ h8_; have BK109 := n0_; have BKp0 := n1_; have GW109 := n2_; have GE109 := n3_; have NB0_109 := n4_; have NB109_0 := n5_; have HI0 := n6_; have HK := n7_; have HB := n8_; clear n0_ n1_ n2_ n3_ n4_ n5_ n6_ n7_ n8_; have hHeld : w12.cell? ⟨g, 0, none⟩ = some (.string s0_0) ∧ w12.cell? ⟨g, 1, none⟩ = some (.int .i64 s0_1) ∧ w12.cell? ⟨g, 2, none⟩ = some (errW s0_2) ∧ w12.cell? ⟨g, 3, none⟩ = some (.bool s0_3) := hS_; refine norm_ (a' := ?_) ?_ ?_; rotate_left
    · simp only [putAll, Act.put, zH, zI, zJ]
      rfl
    refine one_ (i := 14) (N := none) #[o1, o1, o1, o1, o1, o1, o1, o1, o1, o1, o1, o1, o1, o1, o1, o0] rfl rfl (one_of HT_.out (by kernel_rfl)) (by decide) (fun K hK => ?_); have hs13 : w12.cell? ⟨gb109, 0, none⟩ = some (.int .i64 0) := (zF BK109.out 0).trans rfl; have hfs13 := zG BK109.out 0; have hns13_0 := NB0_109.out; have hms13_0 := NB109_0.out; have hs14 : w12.cell? ⟨gb109, 1, none⟩ = some (.int .i64 0) := (zF BK109.out 1).trans rfl; have hfs14 := zG BK109.out 1; have hns14_0 := NB0_109.out; have hms14_0 := NB109_0.out; refine skip_ (w1 := ?_) (by rfl) rfl ?_ ?_; rotate_left
    · go_simp
      rfl
    refine hK.out _ _ ⟨((cell_far (p := ⟨gb109, _, none⟩) NB0_109.out _).trans (((cell_far (p := ⟨gb109, _, none⟩) NB0_109.out _).trans (hHeld.1)))), ((cell_far (p := ⟨gb109, _, none⟩) NB0_109.out _).trans (((cell_far (p := ⟨gb109, _, none⟩) NB0_109.out _).trans (hHeld.2.1)))), ((cell_far (p := ⟨gb109, _, none⟩) NB0_109.out _).trans (((cell_far (p := ⟨gb109, _, none⟩) NB0_109.out _).trans (hHeld.2.2.1)))), ((cell_far (p := ⟨gb109, _, none⟩) NB0_109.out _).trans (((cell_far (p := ⟨gb109, _, none⟩) NB0_109.out _).trans (hHeld.2.2.2))))⟩ (fun hHeld => ?_); clear hK K; refine pure_ (i := 15) (N := some 8) #[o1, o1, o1, o1, o1, o1, o1, o1, o1, o1, o1, o1, o1, o1, o1, o1] rfl rfl (any_of HT_.out (by kernel_rfl)) (fun _ _ _ h => h) (Or.inl ⟨by rfl, qy⟩) qz ?_; refine done_ (done_of HT_.out (by kernel_rfl)) ?_; clear BKp0; go_upto_region 4 with (fail)
    go_cut [32] (fun v32 wc => ∃ (kq : Nat) (x32_6 : Bool), v32 = .bool x32_6 ∧ Aside0 (strict_Reader_Num.j0 kq t108 x32_6 s0_0 s0_1 s0_2 s0_3 t106 t107 = some (r1, r2, r3, r4, r5)) ∧ Aside0 (kq ≤ k) ∧ Aside0 (wc.heap[gb109]? = some (.cells #[.int .i64 t106, .int .i64 t107] 202 (0, 0))) ∧ Aside0 (IsS56 w0 wc g s0_0 s0_1 s0_2 s0_3) ∧ Aside0 (KeepBut w wc g none) ∧ Aside0 (Below w0.heap.size w0 wc))
    case first =>
      have H := HC7.out; clear HC7; by_cases c15 : t108 = 0
      · rw [if_pos c15] at H
        have c15b0 : (t108 == 0) = true := beq_iff_eq.mpr c15; have c15b1 : (t108 != 0) = false := bne_eq_false_iff_eq.mpr c15; clear c15; (first | rw [c15b0] | (simp only [i64_w, i32_w]; rw [c15b0]) | skip)
        have H' := zA H; clear H; have hnb16 := NB109_0.out; have hnc16 := NB0_109.out; obtain ⟨_, _, _, _⟩ := qc2f BK109.out; go_wp2; go_meet
        case rel => exact ⟨_, (decide (t106 > a2)), (by first | rfl | (simp; done) | (simp [*]; done)), H', ⟨by first | omega | exact Nat.le_refl _⟩, ⟨by (with_reducible repeat (first | refine zY ?_ _ | refine zAq ?_ | refine zZ ?_ _)); apply qP2; exact BK109.out⟩, ⟨by repeat (first | (with_reducible first | exact HI0.out | apply IsS56.alloc | apply IsS56.drewN | apply IsS56.drew | refine IsS56.far ?_ NB0_109.out _) | exact HI0.out)⟩, ⟨qJ HK.out⟩, ⟨qH HI0.out HB.out⟩⟩
      rw [if_neg c15] at H; have c15b0 : (t108 == 0) = false := beq_eq_false_iff_ne.mpr c15; have c15b1 : (t108 != 0) = true := bne_iff_ne.mpr c15; (first | rw [c15b0] | (simp only [i64_w, i32_w]; rw [c15b0]) | skip)
      have H' := zA H; clear H; go_wp2; go_meet
      case rel => exact ⟨_, (false), (by first | rfl | (simp; done) | (simp [*]; done)), H', ⟨by first | omega | exact Nat.le_refl _⟩, ⟨by (with_reducible repeat (first | refine zY ?_ _ | refine zAq ?_ | refine zZ ?_ _)); apply qP2; exact BK109.out⟩, ⟨by repeat (first | (with_reducible first | exact HI0.out | apply IsS56.alloc | apply IsS56.drewN | apply IsS56.drew | refine IsS56.far ?_ NB0_109.out _) | exact HI0.out)⟩, ⟨qJ HK.out⟩, ⟨qH HI0.out HB.out⟩⟩
    case rest =>
      clear HC7; try clear c1
      try clear p2
      try clear c4
      try clear c5
      try clear c13
      try clear c15
      try clear c15b0
      try clear c15b1
      try clear c16
      obtain ⟨kq, x32_6, rfl, HA, HJ6, BK109, HI0, HK, HB⟩ := hcut; cases kq with
      | zero => exact absurd HA.out (by simp [strict_Reader_Num.j0])
      | succ kj6 =>
        have H := HA.out; clear HA; simp only [strict_Reader_Num.j0] at H; by_cases c18 : x32_6 = true
        · subst c18
          have H1 : ((strict_Reader_done.f s0_0 s0_1 s0_2 s0_3 t107 3).bind fun bt110 => (if bt110.1 = true then (some (t106, bt110.2.1, bt110.2.2.1, bt110.2.2.2.1, bt110.2.2.2.2)) else (some (0, bt110.2.1, bt110.2.2.1, bt110.2.2.2.1, bt110.2.2.2.2)))) = some (r1, r2, r3, r4, r5) := by first | (rw [if_pos rfl] at H; exact H) | rfl
          clear H; have H := H1; clear H1; replace H := Option.bind_eq_some_iff.mp H; obtain ⟨⟨t110, t111, t112, t113, t114⟩, A190, H⟩ := H; replace H : (if t110 = true then (some (t106, t111, t112, t113, t114)) else (some (0, t111, t112, t113, t114))) = some (r1, r2, r3, r4, r5) := H; have A19 := zA A190; clear A190; by_cases c20 : t110 = true
          · subst c20
            have H1 : (some (t106, t111, t112, t113, t114)) = some (r1, r2, r3, r4, r5) := by first | (rw [if_pos rfl] at H; exact H) | rfl
            clear H; have H := H1; clear H1; simp only [zNq, zOq] at H; obtain ⟨rfl, rfl, rfl, rfl, rfl⟩ := H; have hnb21 := NB109_0.out; have hnc21 := NB0_109.out; obtain ⟨_, _, _, _⟩ := qc2f BK109.out; go_wp2_with (first | ((with_reducible refine zJq (f := 135) rfl ?_); refine goesL_ (some 37) rfl rfl Try.func135 (by kernel_rfl) rfl #[.pointer (some ⟨g, 0, none⟩), .int .i64 t107, .int .i64 3] rfl (by (try simp only [zR, zS, zT]); first | done | rfl | (simp only [zP, zQ]; rfl)) ?_; (with_reducible refine (strict_Reader_done.calls g s0_0 s0_1 s0_2 s0_3 t107 3 true t111 t112 t113 t114 w0 _ ?side1 ?side2 A19.out).mono ?_); (case side1 => repeat (first | (with_reducible first | exact HI0.out | apply IsS56.alloc | apply IsS56.drewN | apply IsS56.drew | refine IsS56.far ?_ NB0_109.out _) | exact HI0.out)); (case side2 => repeat (first | (with_reducible first | exact HB.out | apply zD | apply zB | apply zC | refine zE ?_ (IsS56.ge HI0.out) | refine zE ?_ GE109.out) | exact HB.out)); rintro e w23 ⟨rfl, hi, hb, hk⟩; refine ⟨_, rfl, ?_⟩; have n0_ := zA (KeepBut.blk hk (g' := gb109) (o := .cells #[.int .i64 t106, .int .i64 t107] 202 (0, 0)) (qW BK109.out) NB109_0.out (by simp)); have n1_ := zA (zBq (qJ HK.out) hk (.inl rfl)); have n2_ := zA (hb); have n3_ := zA (hi); clear BK109 HK HB HI0; have BK109 := n0_; have HK := n1_; have HB := n2_; have HI0 := n3_; clear n0_ n1_ n2_ n3_; (try clear hb); (try clear hb2); (try clear hk); (try clear hi); (try simp only [errW_none, errW_some]); obtain ⟨_, _, _, _⟩ := qc2f BK109.out)); go_ret; exact ⟨qE, by repeat (first | (with_reducible first | exact HI0.out | apply IsS56.alloc | apply IsS56.drewN | apply IsS56.drew | refine IsS56.far ?_ NB0_109.out _) | exact HI0.out), qH HI0.out HB.out, qJ HK.out⟩
          replace c20 := Bool.eq_false_iff.mpr c20; subst c20; have H1 : (some (0, t111, t112, t113, t114)) = some (r1, r2, r3, r4, r5) := by first | (rw [if_neg (show ¬ (false = true) by decide)] at H; exact H) | rfl
          clear H; have H := H1; clear H1; simp only [zNq, zOq] at H; obtain ⟨rfl, rfl, rfl, rfl, rfl⟩ := H; have hnb25 := NB109_0.out; have hnc25 := NB0_109.out; obtain ⟨_, _, _, _⟩ := qc2f BK109.out; go_wp2_with (first | ((with_reducible refine zJq (f := 135) rfl ?_); refine goesL_ (some 37) rfl rfl Try.func135 (by kernel_rfl) rfl #[.pointer (some ⟨g, 0, none⟩), .int .i64 t107, .int .i64 3] rfl (by (try simp only [zR, zS, zT]); first | done | rfl | (simp only [zP, zQ]; rfl)) ?_; (with_reducible refine (strict_Reader_done.calls g s0_0 s0_1 s0_2 s0_3 t107 3 false t111 t112 t113 t114 w0 _ ?side1 ?side2 A19.out).mono ?_); (case side1 => repeat (first | (with_reducible first | exact HI0.out | apply IsS56.alloc | apply IsS56.drewN | apply IsS56.drew | refine IsS56.far ?_ NB0_109.out _) | exact HI0.out)); (case side2 => repeat (first | (with_reducible first | exact HB.out | apply zD | apply zB | apply zC | refine zE ?_ (IsS56.ge HI0.out) | refine zE ?_ GE109.out) | exact HB.out)); rintro e w27 ⟨rfl, hi, hb, hk⟩; refine ⟨_, rfl, ?_⟩; have n0_ := zA (KeepBut.blk hk (g' := gb109) (o := .cells #[.int .i64 t106, .int .i64 t107] 202 (0, 0)) (qW BK109.out) NB109_0.out (by simp)); have n1_ := zA (zBq (qJ HK.out) hk (.inl rfl)); have n2_ := zA (hb); have n3_ := zA (hi); clear BK109 HK HB HI0; have BK109 := n0_; have HK := n1_; have HB := n2_; have HI0 := n3_; clear n0_ n1_ n2_ n3_; (try clear hb); (try clear hb2); (try clear hk); (try clear hi); (try simp only [errW_none, errW_some]))); go_ret; exact ⟨qE, by repeat (first | (with_reducible first | exact HI0.out | apply IsS56.alloc | apply IsS56.drewN | apply IsS56.drew | refine IsS56.far ?_ NB0_109.out _) | exact HI0.out), qH HI0.out HB.out, qJ HK.out⟩
        replace c18 := Bool.eq_false_iff.mpr c18; subst c18; have H1 : ((strict_Reader_done.f s0_0 s0_1 s0_2 s0_3 t107 t108).bind fun bt115 => (if bt115.1 = true then (some (t106, bt115.2.1, bt115.2.2.1, bt115.2.2.2.1, bt115.2.2.2.2)) else (some (0, bt115.2.1, bt115.2.2.1, bt115.2.2.2.1, bt115.2.2.2.2)))) = some (r1, r2, r3, r4, r5) := by first | (rw [if_neg (show ¬ (false = true) by decide)] at H; exact H) | rfl
        clear H; have H := H1; clear H1; replace H := Option.bind_eq_some_iff.mp H; obtain ⟨⟨t115, t116, t117, t118, t119⟩, A280, H⟩ := H; replace H : (if t115 = true then (some (t106, t116, t117, t118, t119)) else (some (0, t116, t117, t118, t119))) = some (r1, r2, r3, r4, r5) := H; have A28 := zA A280; clear A280; by_cases c29 : t115 = true
        · subst c29
          have H1 : (some (t106, t116, t117, t118, t119)) = some (r1, r2, r3, r4, r5) := by first | (rw [if_pos rfl] at H; exact H) | rfl
          clear H; have H := H1; clear H1; simp only [zNq, zOq] at H; obtain ⟨rfl, rfl, rfl, rfl, rfl⟩ := H; have hnb30 := NB109_0.out; have hnc30 := NB0_109.out; obtain ⟨_, _, _, _⟩ := qc2f BK109.out; go_wp2_with (first | ((with_reducible refine zJq (f := 135) rfl ?_); refine goesL_ (some 37) rfl rfl Try.func135 (by kernel_rfl) rfl #[.pointer (some ⟨g, 0, none⟩), .int .i64 t107, .int .i64 t108] rfl (by (try simp only [zR, zS, zT]); first | done | rfl | (simp only [zP, zQ]; rfl)) ?_; (with_reducible refine (strict_Reader_done.calls g s0_0 s0_1 s0_2 s0_3 t107 t108 true t116 t117 t118 t119 w0 _ ?side1 ?side2 A28.out).mono ?_); (case side1 => repeat (first | (with_reducible first | exact HI0.out | apply IsS56.alloc | apply IsS56.drewN | apply IsS56.drew | refine IsS56.far ?_ NB0_109.out _) | exact HI0.out)); (case side2 => repeat (first | (with_reducible first | exact HB.out | apply zD | apply zB | apply zC | refine zE ?_ (IsS56.ge HI0.out) | refine zE ?_ GE109.out) | exact HB.out)); rintro e w32 ⟨rfl, hi, hb, hk⟩; refine ⟨_, rfl, ?_⟩; have n0_ := zA (KeepBut.blk hk (g' := gb109) (o := .cells #[.int .i64 t106, .int .i64 t107] 202 (0, 0)) (qW BK109.out) NB109_0.out (by simp)); have n1_ := zA (zBq (qJ HK.out) hk (.inl rfl)); have n2_ := zA (hb); have n3_ := zA (hi); clear BK109 HK HB HI0; have BK109 := n0_; have HK := n1_; have HB := n2_; have HI0 := n3_; clear n0_ n1_ n2_ n3_; (try clear hb); (try clear hb2); (try clear hk); (try clear hi); (try simp only [errW_none, errW_some]); obtain ⟨_, _, _, _⟩ := qc2f BK109.out)); go_ret; exact ⟨qE, by repeat (first | (with_reducible first | exact HI0.out | apply IsS56.alloc | apply IsS56.drewN | apply IsS56.drew | refine IsS56.far ?_ NB0_109.out _) | exact HI0.out), qH HI0.out HB.out, qJ HK.out⟩
        replace c29 := Bool.eq_false_iff.mpr c29; subst c29; have H1 : (some (0, t116, t117, t118, t119)) = some (r1, r2, r3, r4, r5) := by first | (rw [if_neg (show ¬ (false = true) by decide)] at H; exact H) | rfl
        clear H; have H := H1; clear H1; simp only [zNq, zOq] at H; obtain ⟨rfl, rfl, rfl, rfl, rfl⟩ := H; have hnb34 := NB109_0.out; have hnc34 := NB0_109.out; obtain ⟨_, _, _, _⟩ := qc2f BK109.out; go_wp2_with (first | ((with_reducible refine zJq (f := 135) rfl ?_); refine goesL_ (some 37) rfl rfl Try.func135 (by kernel_rfl) rfl #[.pointer (some ⟨g, 0, none⟩), .int .i64 t107, .int .i64 t108] rfl (by (try simp only [zR, zS, zT]); first | done | rfl | (simp only [zP, zQ]; rfl)) ?_; (with_reducible refine (strict_Reader_done.calls g s0_0 s0_1 s0_2 s0_3 t107 t108 false t116 t117 t118 t119 w0 _ ?side1 ?side2 A28.out).mono ?_); (case side1 => repeat (first | (with_reducible first | exact HI0.out | apply IsS56.alloc | apply IsS56.drewN | apply IsS56.drew | refine IsS56.far ?_ NB0_109.out _) | exact HI0.out)); (case side2 => repeat (first | (with_reducible first | exact HB.out | apply zD | apply zB | apply zC | refine zE ?_ (IsS56.ge HI0.out) | refine zE ?_ GE109.out) | exact HB.out)); rintro e w36 ⟨rfl, hi, hb, hk⟩; refine ⟨_, rfl, ?_⟩; have n0_ := zA (KeepBut.blk hk (g' := gb109) (o := .cells #[.int .i64 t106, .int .i64 t107] 202 (0, 0)) (qW BK109.out) NB109_0.out (by simp)); have n1_ := zA (zBq (qJ HK.out) hk (.inl rfl)); have n2_ := zA (hb); have n3_ := zA (hi); clear BK109 HK HB HI0; have BK109 := n0_; have HK := n1_; have HB := n2_; have HI0 := n3_; clear n0_ n1_ n2_ n3_; (try clear hb); (try clear hb2); (try clear hk); (try clear hi); (try simp only [errW_none, errW_some]))); go_ret; exact ⟨qE, by repeat (first | (with_reducible first | exact HI0.out | apply IsS56.alloc | apply IsS56.drewN | apply IsS56.drew | refine IsS56.far ?_ NB0_109.out _) | exact HI0.out), qH HI0.out HB.out, qJ HK.out⟩
  replace c5 := Bool.eq_false_iff.mpr c5
  subst c5
  have H1 : (some (0, s0_0, s0_1, s0_2, s0_3)) = some (r1, r2, r3, r4, r5) := by first | (rw [if_neg (show ¬ (false = true) by decide)] at H; exact H) | rfl
  clear H
  have H := H1
  clear H1
  simp only [zNq, zOq] at H
  obtain ⟨rfl, rfl, rfl, rfl, rfl⟩ := H
  go_enter Try.func41, Try.ntmps41
  go_wp2_with (first | ((with_reducible refine zJq (f := 133) rfl ?_); refine goesL_ (some 10) rfl rfl Try.func133 (by kernel_rfl) rfl #[.pointer (some ⟨g, 0, none⟩)] rfl (by (try simp only [zR, zS, zT]); first | done | rfl | (simp only [zP, zQ]; rfl)) ?_; (with_reducible refine (strict_Reader_goes.calls g s0_0 s0_1 s0_2 s0_3 false s0_0 s0_1 s0_2 s0_3 w0 _ ?side1 ?side2 A4.out).mono ?_); (case side1 => repeat (first | (with_reducible first | exact HI0.out | apply IsS56.alloc | apply IsS56.drewN | apply IsS56.drew) | exact HI0.out)); (case side2 => repeat (first | (with_reducible first | exact HB.out | apply zD | apply zB | apply zC | refine zE ?_ (IsS56.ge HI0.out)) | exact HB.out)); rintro e w37 ⟨rfl, hi, hb, hk⟩; refine ⟨_, rfl, ?_⟩; have n0_ := zA (zBq (qJ HK.out) hk (.inl rfl)); have n1_ := zA (hb); have n2_ := zA (hi); clear HK HB HI0; have HK := n0_; have HB := n1_; have HI0 := n2_; clear n0_ n1_ n2_; (try clear hb); (try clear hb2); (try clear hk); (try clear hi); (try simp only [errW_none, errW_some])))
  go_ret
  exact ⟨qE, by repeat (first | (with_reducible first | exact HI0.out | apply IsS56.alloc | apply IsS56.drewN | apply IsS56.drew) | exact HI0.out), qH HI0.out HB.out, qJ HK.out⟩
def octet_none_string.f (a0 : Int) : Option (ByteArray × Int × Int) := some ((⟨#[]⟩ : ByteArray), 0, a0)
set_option maxHeartbeats 8000000 in
set_option maxRecDepth 100000 in
theorem octet_none_string.calls (a0 : Int) (r1 : ByteArray) (r2 : Int) (r3 : Int) (w : World) (h : octet_none_string.f a0 = some (r1, r2, r3)) :
    Calls Try.prog 213 #[.int .i64 a0] w fun e w' => e = .returned (.tuple #[.agg #[.string r1, .int .i64 r2], .int .i64 r3]) ∧ Below w.heap.size w w' := by
  have hu207 := Try.underlying207
  have HB := zA (Below.refl w.heap.size w)
  have H : (some ((⟨#[]⟩ : ByteArray), 0, a0)) = some (r1, r2, r3) := h
  clear h
  simp only [zNq, zOq] at H
  obtain ⟨rfl, rfl, rfl⟩ := H
  go_enter Try.func213, Try.ntmps213
  go_wp2_with (first | ((with_reducible refine gate_dst (N := 2) rfl ?_); refine box_event qr (N := 2) qr (cs := #[.string (⟨#[]⟩ : ByteArray), .int .i64 0]) (t := 207) qg ?_; intro gb101 hg w2 hbox hb; have n0_ := zA (zV qB hb); have n1_ := zA (hbox); have n2_ := zA ((qS : w.heap.size ≤ gb101)); have n3_ := zA ((qS : w.heap.size ≤ gb101)); clear HB; have HB := n0_; have BK101 := n1_; have GW101 := n2_; have GE101 := n3_; clear n0_ n1_ n2_ n3_ hb hbox hg; obtain ⟨_, _, _, _⟩ := qc2f BK101.out))
  refine bodyPost_ret (results_ct rfl _ _ gb101 207 #[.string (⟨#[]⟩ : ByteArray), .int .i64 0] (0, 0) _ rfl (qV BK101.out) Try.underlying207 rfl (by kernel_rfl)) rfl ?_
  exact ⟨qE, qB⟩
def octet_got_string.f (a0 : ByteArray) (a1 : Int) : Option (ByteArray × Int × Int) := some (a0, a1, 0)
set_option maxHeartbeats 8000000 in
set_option maxRecDepth 100000 in
theorem octet_got_string.calls (a0 : ByteArray) (a1 : Int) (r1 : ByteArray) (r2 : Int) (r3 : Int) (w : World) (h : octet_got_string.f a0 a1 = some (r1, r2, r3)) :
    Calls Try.prog 214 #[.string a0, .int .i64 a1] w fun e w' => e = .returned (.tuple #[.agg #[.string r1, .int .i64 r2], .int .i64 r3]) ∧ Below w.heap.size w w' := by
  have hu207 := Try.underlying207
  have HB := zA (Below.refl w.heap.size w)
  have H : (some (a0, a1, 0)) = some (r1, r2, r3) := h
  clear h
  simp only [zNq, zOq] at H
  obtain ⟨rfl, rfl, rfl⟩ := H
  go_enter Try.func214, Try.ntmps214
  go_wp2_with (first | ((with_reducible refine gate_dst (N := 4) rfl ?_); refine box_event qr (N := 4) qr (cs := #[.string (⟨#[]⟩ : ByteArray), .int .i64 0]) (t := 207) qg ?_; intro gb101 hg w3 hbox hb; have n0_ := zA (zV qB hb); have n1_ := zA (hbox); have n2_ := zA ((qS : w.heap.size ≤ gb101)); have n3_ := zA ((qS : w.heap.size ≤ gb101)); clear HB; have HB := n0_; have BK101 := n1_; have GW101 := n2_; have GE101 := n3_; clear n0_ n1_ n2_ n3_ hb hbox hg; obtain ⟨_, _, _, _⟩ := qc2f BK101.out))
  refine bodyPost_ret (results_ct rfl _ _ gb101 207 #[.string a0, .int .i64 a1] (0, 0) _ rfl (qV BK101.out) Try.underlying207 rfl (by kernel_rfl)) rfl ?_
  exact ⟨qE, qB⟩
def octet_Take.f (k : Nat) (a0 : ByteArray) (a1 : Int) (a2 : Int) : Option (ByteArray × Int × Int) := if a2 < 0 then ((octet_none_string.f 2).bind fun bt102 => (some (bt102.1, bt102.2.1, bt102.2.2))) else ((octet_Get.f k a0 a1 2).bind fun bt105 => (if bt105.2.2 = 0 then (if bt105.1 > a2 then ((octet_none_string.f 3).bind fun bt112 => (some (bt112.1, bt112.2.1, bt112.2.2))) else (if bt105.1 > (wrap64 ((a0.size : Int) - bt105.2.1)) then ((octet_none_string.f 4).bind fun bt115 => (some (bt115.1, bt115.2.1, bt115.2.2))) else (if 0 ≤ bt105.2.1 then (if bt105.2.1 ≤ (wrap64 (bt105.2.1 + bt105.1)) then (if (wrap64 (bt105.2.1 + bt105.1)) ≤ (a0.size : Int) then ((octet_got_string.f (a0.extract (bt105.2.1 : Int).toNat ((wrap64 (bt105.2.1 + bt105.1)) : Int).toNat) (wrap64 (bt105.2.1 + bt105.1))).bind fun bt118 => (some (bt118.1, bt118.2.1, bt118.2.2))) else (none)) else (none)) else (none)))) else ((octet_none_string.f bt105.2.2).bind fun bt109 => (some (bt109.1, bt109.2.1, bt109.2.2)))))
theorem octet_Take.mono : ∀ a0 a1 a2 k, LeO (octet_Take.f k a0 a1 a2) (octet_Take.f (k + 1) a0 a1 a2) := by
  intro a0 a1 a2 k
  unfold octet_Take.f
  repeat' first
      | (with_reducible exact octet_Get.mono _ _ _ _)
      | (with_reducible exact LeO.refl _)
      | (with_reducible exact LeO.none _)
      | (with_reducible refine LeO.ite ?_ ?_)
      | (with_reducible refine LeO.bind ?_ (fun _ => ?_))
      | exact octet_Get.mono _ _ _ _
      | exact LeO.none _
      | refine LeO.ite ?_ ?_
      | refine LeO.bind ?_ (fun _ => ?_)
def octet_Take.T10 : Bool × List (List Nat × List Nat) := (true, [([], []), ([], []), ([1], [1]), ([], []), ([3], [3]), ([], []), ([5], [5]), ([4, 6], [4, 6]), ([0, 2, 7], [0, 2, 7]), ([], []), ([9], [9]), ([], []), ([11], [11]), ([10, 12], [10, 12]), ([8, 13], [8, 13]), ([14], [14]), ([14], [14]), ([15, 14, 0, 1, 2, 3, 4, 5, 6, 7, 8, 9, 10, 11, 12, 13, 14, 15, 16], [15]), ([16, 17, 0, 1, 2, 3, 4, 5, 6, 7, 8, 9, 10, 11, 12, 13, 14, 15, 16, 17], [16])])
def octet_Take.B10 : List Nat := [0, 0, 2, 0, 8, 0, 32, 120, 255, 0, 512, 0, 2048, 7680, 16383, 32767, 32767, 131071, 262143]
theorem octet_Take.tab10 : rtab .any (opsOf Try.f136 10) = octet_Take.T10 := by kernel_rfl
theorem octet_Take.bits10 : waitsOk octet_Take.T10.2 octet_Take.B10 = true := by kernel_rfl
set_option maxHeartbeats 8000000 in
set_option maxRecDepth 100000 in
theorem octet_Take.calls (k : Nat) (a0 : ByteArray) (a1 : Int) (a2 : Int) (r1 : ByteArray) (r2 : Int) (r3 : Int) (w : World) (h : octet_Take.f k a0 a1 a2 = some (r1, r2, r3)) :
    Calls Try.prog 136 #[.string a0, .int .i64 a1, .int .i64 a2] w fun e w' => e = .returned (.tuple #[.agg #[.string r1, .int .i64 r2], .int .i64 r3]) ∧ Below w.heap.size w w' := by
  have hu207 := Try.underlying207
  have hu202 := Try.underlying202
  have HB := zA (Below.refl w.heap.size w)
  have H : (if a2 < 0 then ((octet_none_string.f 2).bind fun bt102 => (some (bt102.1, bt102.2.1, bt102.2.2))) else ((octet_Get.f k a0 a1 2).bind fun bt105 => (if bt105.2.2 = 0 then (if bt105.1 > a2 then ((octet_none_string.f 3).bind fun bt112 => (some (bt112.1, bt112.2.1, bt112.2.2))) else (if bt105.1 > (wrap64 ((a0.size : Int) - bt105.2.1)) then ((octet_none_string.f 4).bind fun bt115 => (some (bt115.1, bt115.2.1, bt115.2.2))) else (if 0 ≤ bt105.2.1 then (if bt105.2.1 ≤ (wrap64 (bt105.2.1 + bt105.1)) then (if (wrap64 (bt105.2.1 + bt105.1)) ≤ (a0.size : Int) then ((octet_got_string.f (a0.extract (bt105.2.1 : Int).toNat ((wrap64 (bt105.2.1 + bt105.1)) : Int).toNat) (wrap64 (bt105.2.1 + bt105.1))).bind fun bt118 => (some (bt118.1, bt118.2.1, bt118.2.2))) else (none)) else (none)) else (none)))) else ((octet_none_string.f bt105.2.2).bind fun bt109 => (some (bt109.1, bt109.2.1, bt109.2.2)))))) = some (r1, r2, r3) := h
  clear h
  by_cases c4 : a2 < 0
  · rw [if_pos c4] at H
    have c4b0 : decide (a2 < 0) = true := zFq c4; clear c4; replace H := Option.bind_eq_some_iff.mp H; obtain ⟨⟨t102, t103, t104⟩, A50, H⟩ := H; replace H : (some (t102, t103, t104)) = some (r1, r2, r3) := H; have A5 := zA A50; clear A50; simp only [zNq, zOq] at H; obtain ⟨rfl, rfl, rfl⟩ := H; go_enter Try.func136, Try.ntmps136; go_wp2_with (first | ((with_reducible refine gate_dst (N := 6) rfl ?_); refine box_event qr (N := 6) qr (cs := #[.string (⟨#[]⟩ : ByteArray), .int .i64 0]) (t := 207) qg ?_; intro gb101 hg w6 hbox hb; have n0_ := zA (zV qB hb); have n1_ := zA (hbox); have n2_ := zA ((qS : w.heap.size ≤ gb101)); have n3_ := zA ((qS : w.heap.size ≤ gb101)); clear HB; have HB := n0_; have BK101 := n1_; have GW101 := n2_; have GE101 := n3_; clear n0_ n1_ n2_ n3_ hb hbox hg) | ((with_reducible refine zJq (f := 213) rfl ?_); refine goesL_ (some 12) rfl rfl Try.func213 (by kernel_rfl) rfl #[.int .i64 2] rfl (by (try simp only [zR, zS, zT]); first | done | rfl | (simp only [zP, zQ]; rfl)) ?_; (with_reducible refine (octet_none_string.calls 2 t102 t103 t104 _ A5.out).mono ?_); rintro e w7 ⟨rfl, hb⟩; refine ⟨_, rfl, ?_⟩; have n0_ := zA (qX BK101.out hb); have n1_ := zA (zV qB hb); clear BK101 HB; have BK101 := n0_; have HB := n1_; clear n0_ n1_; (try clear hb); (try clear hb2); (try clear hk); (try clear hi); obtain ⟨_, _, _, _⟩ := qc2f BK101.out)); refine bodyPost_ret (results_ct rfl _ _ gb101 207 #[.string t102, .int .i64 t103] (0, 0) _ rfl (qV BK101.out) Try.underlying207 rfl (by kernel_rfl)) rfl ?_; exact ⟨qE, qB⟩
  rw [if_neg c4] at H
  have c4b0 : decide (a2 < 0) = false := zGq c4
  clear c4
  replace H := Option.bind_eq_some_iff.mp H
  obtain ⟨⟨t105, t106, t107⟩, A90, H⟩ := H
  replace H : (if t107 = 0 then (if t105 > a2 then ((octet_none_string.f 3).bind fun bt112 => (some (bt112.1, bt112.2.1, bt112.2.2))) else (if t105 > (wrap64 ((a0.size : Int) - t106)) then ((octet_none_string.f 4).bind fun bt115 => (some (bt115.1, bt115.2.1, bt115.2.2))) else (if 0 ≤ t106 then (if t106 ≤ (wrap64 (t106 + t105)) then (if (wrap64 (t106 + t105)) ≤ (a0.size : Int) then ((octet_got_string.f (a0.extract (t106 : Int).toNat ((wrap64 (t106 + t105)) : Int).toNat) (wrap64 (t106 + t105))).bind fun bt118 => (some (bt118.1, bt118.2.1, bt118.2.2))) else (none)) else (none)) else (none)))) else ((octet_none_string.f t107).bind fun bt109 => (some (bt109.1, bt109.2.1, bt109.2.2)))) = some (r1, r2, r3) := H
  have A9 := zA A90
  clear A90
  by_cases c10 : t107 = 0
  · rw [if_pos c10] at H
    have c10b0 : (t107 == 0) = true := beq_iff_eq.mpr c10; have c10b1 : (t107 != 0) = false := bne_eq_false_iff_eq.mpr c10; clear c10; by_cases c11 : t105 > a2
    · rw [if_pos c11] at H
      have c11b0 : decide (a2 < t105) = true := zFq c11; clear c11; replace H := Option.bind_eq_some_iff.mp H; obtain ⟨⟨t112, t113, t114⟩, A120, H⟩ := H; replace H : (some (t112, t113, t114)) = some (r1, r2, r3) := H; have A12 := zA A120; clear A120; simp only [zNq, zOq] at H; obtain ⟨rfl, rfl, rfl⟩ := H; go_enter Try.func136, Try.ntmps136; go_wp2_with (first | ((with_reducible refine gate_dst (N := 6) rfl ?_); refine box_event qr (N := 6) qr (cs := #[.string (⟨#[]⟩ : ByteArray), .int .i64 0]) (t := 207) qg ?_; intro gb101 hg w13 hbox hb; have n0_ := zA (zV qB hb); have n1_ := zA (hbox); have n2_ := zA ((qS : w.heap.size ≤ gb101)); have n3_ := zA ((qS : w.heap.size ≤ gb101)); clear HB; have HB := n0_; have BK101 := n1_; have GW101 := n2_; have GE101 := n3_; clear n0_ n1_ n2_ n3_ hb hbox hg) | ((with_reducible refine zJq (f := 134) rfl ?_); refine goesL_ (some 18) rfl rfl Try.func134 (by kernel_rfl) rfl #[.string a0, .int .i64 a1, .int .i64 2] rfl (by (try simp only [zR, zS, zT]); first | done | rfl | (simp only [zP, zQ]; rfl)) ?_; (with_reducible refine (octet_Get.calls k a0 a1 2 t105 t106 t107 _ A9.out).mono ?_); rintro e w14 ⟨rfl, hb⟩; refine ⟨_, rfl, ?_⟩; have n0_ := zA (qX BK101.out hb); have n1_ := zA (zV qB hb); clear BK101 HB; have BK101 := n0_; have HB := n1_; clear n0_ n1_; (try clear hb); (try clear hb2); (try clear hk); (try clear hi)) | ((with_reducible refine gate_dst (N := 8) rfl ?_); refine box_event qr (N := 8) qr (cs := #[.int .i64 0, .int .i64 0]) (t := 202) qg ?_; intro gb108 hg w15 hbox hb; have n0_ := zA (qX BK101.out hb); have n1_ := zA (zV qB hb); have n2_ := zA (hbox); have n3_ := zA ((qS : w.heap.size ≤ gb108)); have n4_ := zA ((qS : w.heap.size ≤ gb108)); have n5_ := zA ((by rw [hg]; exact zLq (qL BK101.out) : gb101 ≠ gb108)); have n6_ := zA ((by rw [hg]; exact zMq (qL BK101.out) : gb108 ≠ gb101)); clear BK101 HB; have BK101 := n0_; have HB := n1_; have BK108 := n2_; have GW108 := n3_; have GE108 := n4_; have NB101_108 := n5_; have NB108_101 := n6_; clear n0_ n1_ n2_ n3_ n4_ n5_ n6_ hb hbox hg; have hnb16 := NB108_101.out; have hnc16 := NB101_108.out; obtain ⟨_, _, _, _⟩ := qc2f BK108.out) | ((with_reducible refine zJq (f := 213) rfl ?_); refine goesL_ (some 31) rfl rfl Try.func213 (by kernel_rfl) rfl #[.int .i64 3] rfl (by (try simp only [zR, zS, zT]); first | done | rfl | (simp only [zP, zQ]; rfl)) ?_; (with_reducible refine (octet_none_string.calls 3 t112 t113 t114 _ A12.out).mono ?_); rintro e w18 ⟨rfl, hb⟩; refine ⟨_, rfl, ?_⟩; have n0_ := zA (qX BK101.out hb); have n1_ := zA (zX (g := gb108) (o := .cells #[.int .i64 t105, .int .i64 t106] 202 (0, 0)) (qV BK108.out) hb); have n2_ := zA (zV qB hb); clear BK101 BK108 HB; have BK101 := n0_; have BK108 := n1_; have HB := n2_; clear n0_ n1_ n2_; (try clear hb); (try clear hb2); (try clear hk); (try clear hi); obtain ⟨_, _, _, _⟩ := qc2f BK101.out))
      refine bodyPost_ret (results_ct rfl _ _ gb101 207 #[.string t112, .int .i64 t113] (0, 0) _ rfl (qV BK101.out) Try.underlying207 rfl (by kernel_rfl)) rfl ?_; exact ⟨qE, qB⟩
    rw [if_neg c11] at H; have c11b0 : decide (a2 < t105) = false := zGq c11; clear c11; by_cases c20 : t105 > (wrap64 ((a0.size : Int) - t106))
    · rw [if_pos c20] at H
      have c20b0 : decide ((wrap64 ((a0.size : Int) - t106)) < t105) = true := zFq c20; clear c20; replace H := Option.bind_eq_some_iff.mp H; obtain ⟨⟨t115, t116, t117⟩, A210, H⟩ := H; replace H : (some (t115, t116, t117)) = some (r1, r2, r3) := H; have A21 := zA A210; clear A210; simp only [zNq, zOq] at H; obtain ⟨rfl, rfl, rfl⟩ := H; go_enter Try.func136, Try.ntmps136; go_wp2_with (first | ((with_reducible refine gate_dst (N := 6) rfl ?_); refine box_event qr (N := 6) qr (cs := #[.string (⟨#[]⟩ : ByteArray), .int .i64 0]) (t := 207) qg ?_; intro gb101 hg w22 hbox hb; have n0_ := zA (zV qB hb); have n1_ := zA (hbox); have n2_ := zA ((qS : w.heap.size ≤ gb101)); have n3_ := zA ((qS : w.heap.size ≤ gb101)); clear HB; have HB := n0_; have BK101 := n1_; have GW101 := n2_; have GE101 := n3_; clear n0_ n1_ n2_ n3_ hb hbox hg) | ((with_reducible refine zJq (f := 134) rfl ?_); refine goesL_ (some 18) rfl rfl Try.func134 (by kernel_rfl) rfl #[.string a0, .int .i64 a1, .int .i64 2] rfl (by (try simp only [zR, zS, zT]); first | done | rfl | (simp only [zP, zQ]; rfl)) ?_; (with_reducible refine (octet_Get.calls k a0 a1 2 t105 t106 t107 _ A9.out).mono ?_); rintro e w23 ⟨rfl, hb⟩; refine ⟨_, rfl, ?_⟩; have n0_ := zA (qX BK101.out hb); have n1_ := zA (zV qB hb); clear BK101 HB; have BK101 := n0_; have HB := n1_; clear n0_ n1_; (try clear hb); (try clear hb2); (try clear hk); (try clear hi)) | ((with_reducible refine gate_dst (N := 8) rfl ?_); refine box_event qr (N := 8) qr (cs := #[.int .i64 0, .int .i64 0]) (t := 202) qg ?_; intro gb108 hg w24 hbox hb; have n0_ := zA (qX BK101.out hb); have n1_ := zA (zV qB hb); have n2_ := zA (hbox); have n3_ := zA ((qS : w.heap.size ≤ gb108)); have n4_ := zA ((qS : w.heap.size ≤ gb108)); have n5_ := zA ((by rw [hg]; exact zLq (qL BK101.out) : gb101 ≠ gb108)); have n6_ := zA ((by rw [hg]; exact zMq (qL BK101.out) : gb108 ≠ gb101)); clear BK101 HB; have BK101 := n0_; have HB := n1_; have BK108 := n2_; have GW108 := n3_; have GE108 := n4_; have NB101_108 := n5_; have NB108_101 := n6_; clear n0_ n1_ n2_ n3_ n4_ n5_ n6_ hb hbox hg; have hnb25 := NB108_101.out; have hnc25 := NB101_108.out; obtain ⟨_, _, _, _⟩ := qc2f BK108.out) | ((with_reducible refine zJq (f := 213) rfl ?_); refine goesL_ (some 42) rfl rfl Try.func213 (by kernel_rfl) rfl #[.int .i64 4] rfl (by (try simp only [zR, zS, zT]); first | done | rfl | (simp only [zP, zQ]; rfl)) ?_; (with_reducible refine (octet_none_string.calls 4 t115 t116 t117 _ A21.out).mono ?_); rintro e w27 ⟨rfl, hb⟩; refine ⟨_, rfl, ?_⟩; have n0_ := zA (qX BK101.out hb); have n1_ := zA (zX (g := gb108) (o := .cells #[.int .i64 t105, .int .i64 t106] 202 (0, 0)) (qV BK108.out) hb); have n2_ := zA (zV qB hb); clear BK101 BK108 HB; have BK101 := n0_; have BK108 := n1_; have HB := n2_; clear n0_ n1_ n2_; (try clear hb); (try clear hb2); (try clear hk); (try clear hi); obtain ⟨_, _, _, _⟩ := qc2f BK101.out))
      refine bodyPost_ret (results_ct rfl _ _ gb101 207 #[.string t115, .int .i64 t116] (0, 0) _ rfl (qV BK101.out) Try.underlying207 rfl (by kernel_rfl)) rfl ?_; exact ⟨qE, qB⟩
    rw [if_neg c20] at H; have c20b0 : decide ((wrap64 ((a0.size : Int) - t106)) < t105) = false := zGq c20; clear c20; by_cases c29 : 0 ≤ t106
    · rw [if_pos c29] at H
      have c29b0 := eq_true c29; have c29b1 : decide (0 ≤ t106) = true := zFq c29; clear c29; by_cases c30 : t106 ≤ (wrap64 (t106 + t105))
      · rw [if_pos c30] at H
        have c30b0 := eq_true c30; have c30b1 : decide (t106 ≤ (wrap64 (t106 + t105))) = true := zFq c30; by_cases c31 : (wrap64 (t106 + t105)) ≤ (a0.size : Int)
        · rw [if_pos c31] at H
          have c31b0 := eq_true c31; have c31b1 : decide ((wrap64 (t106 + t105)) ≤ (a0.size : Int)) = true := zFq c31; replace H := Option.bind_eq_some_iff.mp H; obtain ⟨⟨t118, t119, t120⟩, A320, H⟩ := H; replace H : (some (t118, t119, t120)) = some (r1, r2, r3) := H; have A32 := zA A320; clear A320; simp only [zNq, zOq] at H; obtain ⟨rfl, rfl, rfl⟩ := H; go_enter Try.func136, Try.ntmps136; try go_wp2_with (first | ((with_reducible refine gate_dst (N := 6) rfl ?_); refine box_event qr (N := 6) qr (cs := #[.string (⟨#[]⟩ : ByteArray), .int .i64 0]) (t := 207) qg ?_; intro gb101 hg w33 hbox hb; have n0_ := zA (zV qB hb); have n1_ := zA (hbox); have n2_ := zA ((qS : w.heap.size ≤ gb101)); have n3_ := zA ((qS : w.heap.size ≤ gb101)); clear HB; have HB := n0_; have BK101 := n1_; have GW101 := n2_; have GE101 := n3_; clear n0_ n1_ n2_ n3_ hb hbox hg) | ((with_reducible refine zJq (f := 134) rfl ?_); refine goesL_ (some 18) rfl rfl Try.func134 (by kernel_rfl) rfl #[.string a0, .int .i64 a1, .int .i64 2] rfl (by (try simp only [zR, zS, zT]); first | done | rfl | (simp only [zP, zQ]; rfl)) ?_; (with_reducible refine (octet_Get.calls k a0 a1 2 t105 t106 t107 _ A9.out).mono ?_); rintro e w34 ⟨rfl, hb⟩; refine ⟨_, rfl, ?_⟩; have n0_ := zA (qX BK101.out hb); have n1_ := zA (zV qB hb); clear BK101 HB; have BK101 := n0_; have HB := n1_; clear n0_ n1_; (try clear hb); (try clear hb2); (try clear hk); (try clear hi)) | ((with_reducible refine gate_dst (N := 8) rfl ?_); refine box_event qr (N := 8) qr (cs := #[.int .i64 0, .int .i64 0]) (t := 202) qg ?_; intro gb108 hg w35 hbox hb; have n0_ := zA (qX BK101.out hb); have n1_ := zA (zV qB hb); have n2_ := zA (hbox); have n3_ := zA ((qS : w.heap.size ≤ gb108)); have n4_ := zA ((qS : w.heap.size ≤ gb108)); have n5_ := zA ((by rw [hg]; exact zLq (qL BK101.out) : gb101 ≠ gb108)); have n6_ := zA ((by rw [hg]; exact zMq (qL BK101.out) : gb108 ≠ gb101)); clear BK101 HB; have BK101 := n0_; have HB := n1_; have BK108 := n2_; have GW108 := n3_; have GE108 := n4_; have NB101_108 := n5_; have NB108_101 := n6_; clear n0_ n1_ n2_ n3_ n4_ n5_ n6_ hb hbox hg; have hnb36 := NB108_101.out; have hnc36 := NB101_108.out; obtain ⟨_, _, _, _⟩ := qc2f BK108.out))
          have n0_ : Aside0 (((w35.setCell ⟨gb108, 0, none⟩ (.int .i64 t105)).setCell ⟨gb108, 1, none⟩ (.int .i64 t106)).heap[gb101]? = some (.cells #[.string (⟨#[]⟩ : ByteArray), .int .i64 0] 207 (0, 0))) := ⟨by (with_reducible repeat (first | refine zY ?_ _ | refine zAq ?_ | refine zZ ?_ _)); refine blk_far ?_ NB101_108.out _; (with_reducible repeat (first | refine zY ?_ _ | refine zAq ?_ | refine zZ ?_ _)); refine blk_far ?_ NB101_108.out _; exact BK101.out⟩
          have n1_ : Aside0 (((w35.setCell ⟨gb108, 0, none⟩ (.int .i64 t105)).setCell ⟨gb108, 1, none⟩ (.int .i64 t106)).heap[gb108]? = some (.cells #[.int .i64 t105, .int .i64 t106] 202 (0, 0))) := ⟨by (with_reducible repeat (first | refine zY ?_ _ | refine zAq ?_ | refine zZ ?_ _)); apply qP2; exact BK108.out⟩
          have n2_ : Aside0 (Below w.heap.size w ((w35.setCell ⟨gb108, 0, none⟩ (.int .i64 t105)).setCell ⟨gb108, 1, none⟩ (.int .i64 t106))) := ⟨qB⟩
          (try clear BK101); (try clear BK108); (try clear HB)
          generalize ((w35.setCell ⟨gb108, 0, none⟩ (.int .i64 t105)).setCell ⟨gb108, 1, none⟩ (.int .i64 t106)) = w38 at n0_ n1_ n2_ ⊢; have BK101 := n0_; have BK108 := n1_; have HB := n2_; clear n0_ n1_ n2_; have n0_ := zA (zAq BK101.out); have n1_ := zA (zAq BK108.out); have n2_ := zA (zC HB.out); clear BK101; clear BK108; clear HB; have BK101 := n0_; have BK108 := n1_; have HB := n2_; clear n0_ n1_ n2_; refine start_ (n := 19) (S := fun w' => w'.cell? ⟨gb108, 0, none⟩ = some (.int .i64 t105) ∧ w'.cell? ⟨gb108, 1, none⟩ = some (.int .i64 t106)) (ds := []) #[o0, o0, o0, o0, o0, o0, o0, o0, o0, o0, o0, o0, o0, o0, o0, o0, o0, o0, o0] (by kernel_rfl) rfl rfl ⟨(zF BK108.out 0).trans rfl, (zF BK108.out 1).trans rfl⟩ (fun hHeld => ?_); refine with_tabW octet_Take.tab10 octet_Take.bits10 (fun HT_ HW_ => ?_); generalize w38.drew = w39 at BK101 BK108 HB hHeld ⊢; refine pure_ (i := 0) (N := some 45) #[o1, o0, o0, o0, o0, o0, o0, o0, o0, o0, o0, o0, o0, o0, o0, o0, o0, o0, o0] rfl rfl (any_of HT_.out (by kernel_rfl)) (fun _ _ _ h => h) (Or.inl ⟨by rfl, qy⟩) qz ?_; refine pure_ (i := 1) (N := some 46) #[o1, o1, o0, o0, o0, o0, o0, o0, o0, o0, o0, o0, o0, o0, o0, o0, o0, o0, o0] rfl rfl (any_of HT_.out (by kernel_rfl)) (fun _ _ _ h => h) (Or.inl ⟨by rfl, qy⟩) qz ?_; refine pure_ (i := 3) (N := some 48) #[o1, o1, o0, o1, o0, o0, o0, o0, o0, o0, o0, o0, o0, o0, o0, o0, o0, o0, o0] rfl rfl (any_of HT_.out (by kernel_rfl)) (fun _ _ _ h => h) (Or.inl ⟨by rfl, qy⟩) qz ?_; refine pure_ (i := 5) (N := some 50) #[o1, o1, o0, o1, o0, o1, o0, o0, o0, o0, o0, o0, o0, o0, o0, o0, o0, o0, o0] rfl rfl (any_of HT_.out (by kernel_rfl)) (fun _ _ _ h => h) (Or.inl ⟨by rfl, qy⟩) qz ?_; refine pure_ (i := 9) (N := some 54) #[o1, o1, o0, o1, o0, o1, o0, o0, o0, o1, o0, o0, o0, o0, o0, o0, o0, o0, o0] rfl rfl (any_of HT_.out (by kernel_rfl)) (fun _ _ _ h => h) (Or.inl ⟨by rfl, qy⟩) qz ?_; refine pure_ (i := 11) (N := some 56) #[o1, o1, o0, o1, o0, o1, o0, o0, o0, o1, o0, o1, o0, o0, o0, o0, o0, o0, o0] rfl rfl (any_of HT_.out (by kernel_rfl)) (fun _ _ _ h => h) (Or.inl ⟨by rfl, qy⟩) qz ?_; refine take_ (i := 2) (N := some 47) (v := ?_) (a' := ?_) #[o1, o1, o1, o1, o0, o1, o0, o0, o0, o1, o0, o1, o0, o0, o0, o0, o0, o0, o0] rfl rfl (take_ofW HT_.out HW_.out (by kernel_rfl)) (fun _ _ _ h => h) (Or.inl ⟨by rfl, ?_⟩) hHeld ?_ ?_; rotate_left
          · rintro w' ⟨s0, s1⟩
            go_simp; with_reducible rfl
          rotate_left
          · simp only [Act.put, zH, zI, zJ, i64_w, i32_w]
            rfl
          refine take_ (i := 4) (N := some 49) (v := ?_) (a' := ?_) #[o1, o1, o1, o1, o1, o1, o0, o0, o0, o1, o0, o1, o0, o0, o0, o0, o0, o0, o0] rfl rfl (take_ofW HT_.out HW_.out (by kernel_rfl)) (fun _ _ _ h => h) (Or.inl ⟨by rfl, ?_⟩) hHeld ?_ ?_; rotate_left
          · rintro w' ⟨s0, s1⟩
            go_simp; with_reducible rfl
          rotate_left
          · simp only [Act.put, zH, zI, zJ, i64_w, i32_w]
            rfl
          refine take_ (i := 6) (N := some 51) (v := ?_) (a' := ?_) #[o1, o1, o1, o1, o1, o1, o1, o0, o0, o1, o0, o1, o0, o0, o0, o0, o0, o0, o0] rfl rfl (take_ofW HT_.out HW_.out (by kernel_rfl)) (fun _ _ _ h => h) (Or.inl ⟨by rfl, ?_⟩) hHeld ?_ ?_; rotate_left
          · rintro w' ⟨s0, s1⟩
            go_simp; with_reducible rfl
          rotate_left
          · simp only [Act.put, zH, zI, zJ, i64_w, i32_w]
            rfl
          refine pure_ (i := 7) (N := some 52) #[o1, o1, o1, o1, o1, o1, o1, o1, o0, o1, o0, o1, o0, o0, o0, o0, o0, o0, o0] rfl rfl (any_of HT_.out (by kernel_rfl)) (fun _ _ _ h => h) (Or.inl ⟨by rfl, qy⟩) qz ?_; refine pure_ (i := 8) (N := some 53) #[o1, o1, o1, o1, o1, o1, o1, o1, o1, o1, o0, o1, o0, o0, o0, o0, o0, o0, o0] rfl rfl (any_of HT_.out (by kernel_rfl)) (fun _ _ _ h => h) (Or.inl ⟨by rfl, qy⟩) qz ?_; refine take_ (i := 10) (N := some 55) (v := ?_) (a' := ?_) #[o1, o1, o1, o1, o1, o1, o1, o1, o1, o1, o1, o1, o0, o0, o0, o0, o0, o0, o0] rfl rfl (take_ofW HT_.out HW_.out (by kernel_rfl)) (fun _ _ _ h => h) (Or.inl ⟨by rfl, ?_⟩) hHeld ?_ ?_; rotate_left
          · rintro w' ⟨s0, s1⟩
            go_simp; with_reducible rfl
          rotate_left
          · simp only [Act.put, zH, zI, zJ, i64_w, i32_w]
            rfl
          refine take_ (i := 12) (N := some 57) (v := ?_) (a' := ?_) #[o1, o1, o1, o1, o1, o1, o1, o1, o1, o1, o1, o1, o1, o0, o0, o0, o0, o0, o0] rfl rfl (take_ofW HT_.out HW_.out (by kernel_rfl)) (fun _ _ _ h => h) (Or.inl ⟨by rfl, ?_⟩) hHeld ?_ ?_; rotate_left
          · rintro w' ⟨s0, s1⟩
            go_simp; with_reducible rfl
          rotate_left
          · simp only [Act.put, zH, zI, zJ, i64_w, i32_w]
            rfl
          refine pure_ (i := 13) (N := some 58) #[o1, o1, o1, o1, o1, o1, o1, o1, o1, o1, o1, o1, o1, o1, o0, o0, o0, o0, o0] rfl rfl (any_of HT_.out (by kernel_rfl)) (fun _ _ _ h => h) (Or.inl ⟨by rfl, qy⟩) qz ?_; refine one_ (i := 14) (N := some 59) #[o1, o1, o1, o1, o1, o1, o1, o1, o1, o1, o1, o1, o1, o1, o1, o0, o0, o0, o0] rfl rfl (one_of HT_.out (by kernel_rfl)) (by decide) (fun K hK => ?_); refine goes_ Try.func214 (by kernel_rfl) rfl #[.string (a0.extract (t106 : Int).toNat ((wrap64 (t106 + t105)) : Int).toNat), .int .i64 (wrap64 (t106 + t105))] (by rfl) rfl rfl (by (try simp only [zR, zS, zT]); first | done | rfl | (simp only [zP, zQ]; rfl)) ?_; with_reducible refine (octet_got_string.calls (a0.extract (t106 : Int).toNat ((wrap64 (t106 + t105)) : Int).toNat) (wrap64 (t106 + t105)) t118 t119 t120 _ A32.out).mono ?_
          rintro e w40 ⟨rfl, hb⟩; refine ⟨_, rfl, ?_⟩; have n0_ := zA (qX BK101.out hb); have n1_ := zA (qX BK108.out hb); have n2_ := zA (zV qB hb); clear BK101; clear BK108; clear HB; have BK101 := n0_; have BK108 := n1_; have HB := n2_; clear n0_ n1_ n2_; (try clear hb); (try clear hb2); (try clear hk); (try clear hi); refine hK.out _ _ ⟨(zF BK108.out 0).trans rfl, (zF BK108.out 1).trans rfl⟩ (fun hHeld => ?_); clear hK K; refine norm_ (a' := ?_) ?_ ?_; rotate_left
          · show Act.put _ (some 59) _ = _
            simp only [Act.put, zH, zI, zJ, i64_w, i32_w]; rfl
          refine pure_ (i := 15) (N := some 60) #[o1, o1, o1, o1, o1, o1, o1, o1, o1, o1, o1, o1, o1, o1, o1, o1, o0, o0, o0] rfl rfl (any_of HT_.out (by kernel_rfl)) (fun _ _ _ h => h) (Or.inl ⟨by rfl, qy⟩) qz ?_; refine pure_ (i := 16) (N := some 61) #[o1, o1, o1, o1, o1, o1, o1, o1, o1, o1, o1, o1, o1, o1, o1, o1, o1, o0, o0] rfl rfl (any_of HT_.out (by kernel_rfl)) (fun _ _ _ h => h) (Or.inl ⟨by rfl, qy⟩) qz ?_; refine one_ (i := 17) (N := none) #[o1, o1, o1, o1, o1, o1, o1, o1, o1, o1, o1, o1, o1, o1, o1, o1, o1, o1, o0] rfl rfl (one_of HT_.out (by kernel_rfl)) (by decide) (fun K hK => ?_); have hs41 : w40.cell? ⟨gb101, 0, none⟩ = some (.string (⟨#[]⟩ : ByteArray)) := (zF BK101.out 0).trans rfl; have hfs41 := zG BK101.out 0; have hns41_1 := NB108_101.out; have hms41_1 := NB101_108.out; have hs42 : w40.cell? ⟨gb101, 1, none⟩ = some (.int .i64 0) := (zF BK101.out 1).trans rfl; have hfs42 := zG BK101.out 1; have hns42_1 := NB108_101.out; have hms42_1 := NB101_108.out; refine skip_ (w1 := ?_) (by rfl) rfl ?_ ?_; rotate_left
          · go_simp
            rfl
          refine hK.out _ _ ⟨((cell_far (p := ⟨gb101, _, none⟩) NB108_101.out _).trans (((cell_far (p := ⟨gb101, _, none⟩) NB108_101.out _).trans (hHeld.1)))), ((cell_far (p := ⟨gb101, _, none⟩) NB108_101.out _).trans (((cell_far (p := ⟨gb101, _, none⟩) NB108_101.out _).trans (hHeld.2))))⟩ (fun hHeld => ?_); clear hK K; refine pure_ (i := 18) (N := some 7) #[o1, o1, o1, o1, o1, o1, o1, o1, o1, o1, o1, o1, o1, o1, o1, o1, o1, o1, o1] rfl rfl (any_of HT_.out (by kernel_rfl)) (fun _ _ _ h => h) (Or.inl ⟨by rfl, qy⟩) qz ?_; refine done_ (done_of HT_.out (by kernel_rfl)) ?_; try go_wp2
          refine bodyPost_ret (results_ct rfl _ _ gb101 207 #[.string t118, .int .i64 t119] (0, 0) _ rfl (qV BK101.out) Try.underlying207 rfl (by kernel_rfl)) rfl ?_; exact ⟨qE, qB⟩
        rw [if_neg c31] at H; exact absurd H (by simp)
      rw [if_neg c30] at H; exact absurd H (by simp)
    rw [if_neg c29] at H; exact absurd H (by simp)
  rw [if_neg c10] at H
  have c10b0 : (t107 == 0) = false := beq_eq_false_iff_ne.mpr c10
  have c10b1 : (t107 != 0) = true := bne_iff_ne.mpr c10
  replace H := Option.bind_eq_some_iff.mp H
  obtain ⟨⟨t109, t110, t111⟩, A430, H⟩ := H
  replace H : (some (t109, t110, t111)) = some (r1, r2, r3) := H
  have A43 := zA A430
  clear A430
  simp only [zNq, zOq] at H
  obtain ⟨rfl, rfl, rfl⟩ := H
  go_enter Try.func136, Try.ntmps136
  go_wp2_with (first | ((with_reducible refine gate_dst (N := 6) rfl ?_); refine box_event qr (N := 6) qr (cs := #[.string (⟨#[]⟩ : ByteArray), .int .i64 0]) (t := 207) qg ?_; intro gb101 hg w44 hbox hb; have n0_ := zA (zV qB hb); have n1_ := zA (hbox); have n2_ := zA ((qS : w.heap.size ≤ gb101)); have n3_ := zA ((qS : w.heap.size ≤ gb101)); clear HB; have HB := n0_; have BK101 := n1_; have GW101 := n2_; have GE101 := n3_; clear n0_ n1_ n2_ n3_ hb hbox hg) | ((with_reducible refine zJq (f := 134) rfl ?_); refine goesL_ (some 18) rfl rfl Try.func134 (by kernel_rfl) rfl #[.string a0, .int .i64 a1, .int .i64 2] rfl (by (try simp only [zR, zS, zT]); first | done | rfl | (simp only [zP, zQ]; rfl)) ?_; (with_reducible refine (octet_Get.calls k a0 a1 2 t105 t106 t107 _ A9.out).mono ?_); rintro e w45 ⟨rfl, hb⟩; refine ⟨_, rfl, ?_⟩; have n0_ := zA (qX BK101.out hb); have n1_ := zA (zV qB hb); clear BK101 HB; have BK101 := n0_; have HB := n1_; clear n0_ n1_; (try clear hb); (try clear hb2); (try clear hk); (try clear hi)) | ((with_reducible refine gate_dst (N := 8) rfl ?_); refine box_event qr (N := 8) qr (cs := #[.int .i64 0, .int .i64 0]) (t := 202) qg ?_; intro gb108 hg w46 hbox hb; have n0_ := zA (qX BK101.out hb); have n1_ := zA (zV qB hb); have n2_ := zA (hbox); have n3_ := zA ((qS : w.heap.size ≤ gb108)); have n4_ := zA ((qS : w.heap.size ≤ gb108)); have n5_ := zA ((by rw [hg]; exact zLq (qL BK101.out) : gb101 ≠ gb108)); have n6_ := zA ((by rw [hg]; exact zMq (qL BK101.out) : gb108 ≠ gb101)); clear BK101 HB; have BK101 := n0_; have HB := n1_; have BK108 := n2_; have GW108 := n3_; have GE108 := n4_; have NB101_108 := n5_; have NB108_101 := n6_; clear n0_ n1_ n2_ n3_ n4_ n5_ n6_ hb hbox hg; have hnb47 := NB108_101.out; have hnc47 := NB101_108.out; obtain ⟨_, _, _, _⟩ := qc2f BK108.out) | ((with_reducible refine zJq (f := 213) rfl ?_); refine goesL_ (some 24) rfl rfl Try.func213 (by kernel_rfl) rfl #[.int .i64 t107] rfl (by (try simp only [zR, zS, zT]); first | done | rfl | (simp only [zP, zQ]; rfl)) ?_; (with_reducible refine (octet_none_string.calls t107 t109 t110 t111 _ A43.out).mono ?_); rintro e w49 ⟨rfl, hb⟩; refine ⟨_, rfl, ?_⟩; have n0_ := zA (qX BK101.out hb); have n1_ := zA (zX (g := gb108) (o := .cells #[.int .i64 t105, .int .i64 t106] 202 (0, 0)) (qV BK108.out) hb); have n2_ := zA (zV qB hb); clear BK101 BK108 HB; have BK101 := n0_; have BK108 := n1_; have HB := n2_; clear n0_ n1_ n2_; (try clear hb); (try clear hb2); (try clear hk); (try clear hi); obtain ⟨_, _, _, _⟩ := qc2f BK101.out))
  refine bodyPost_ret (results_ct rfl _ _ gb101 207 #[.string t109, .int .i64 t110] (0, 0) _ rfl (qV BK101.out) Try.underlying207 rfl (by kernel_rfl)) rfl ?_
  exact ⟨qE, qB⟩
def serial_folded.f (a0 : Int) : Option (Int) := if a0 ≥ 97 then (if a0 ≤ 122 then (some (wrap32 ((wrap32 (a0 - 97)) + 65))) else (some a0)) else (some a0)
set_option maxHeartbeats 8000000 in
set_option maxRecDepth 100000 in
theorem serial_folded.calls (a0 : Int) (r : Int) (w : World) (h : serial_folded.f a0 = some r) :
    Calls Try.prog 258 #[.int .i32 a0] w fun e w' => e = .returned (.int .i32 r) ∧ Drawn0 w w' := by
  have H : (if a0 ≥ 97 then (if a0 ≤ 122 then (some (wrap32 ((wrap32 (a0 - 97)) + 65))) else (some a0)) else (some a0)) = some r := h
  clear h
  by_cases c2 : a0 ≥ 97
  · rw [if_pos c2] at H
    have c2b0 : decide (97 ≤ a0) = true := zFq c2; clear c2; by_cases c3 : a0 ≤ 122
    · rw [if_pos c3] at H
      have c3b0 : decide (a0 ≤ 122) = true := zFq c3; clear c3; obtain rfl := zKq H; go_enter Try.func258, Try.ntmps258; go_wp2; go_ret; exact ⟨by first | rfl | (simp; done) | (simp [*]; done), by repeat (first | exact Drawn0.refl _ | apply Drawn0.step)⟩
    rw [if_neg c3] at H; have c3b0 : decide (a0 ≤ 122) = false := zGq c3; clear c3; obtain rfl := zKq H; go_enter Try.func258, Try.ntmps258; go_wp2; go_ret; exact ⟨by first | rfl | (simp; done) | (simp [*]; done), by repeat (first | exact Drawn0.refl _ | apply Drawn0.step)⟩
  rw [if_neg c2] at H
  have c2b0 : decide (97 ≤ a0) = false := zGq c2
  clear c2
  obtain rfl := zKq H
  go_enter Try.func258, Try.ntmps258
  go_wp2
  go_ret
  exact ⟨by first | rfl | (simp; done) | (simp [*]; done), by repeat (first | exact Drawn0.refl _ | apply Drawn0.step)⟩
mutual
def serial_Class.j0 : Nat → Int → Bool → Option (Int)
  | 0, _, _ => none
  | k + 1, x0, x3 => if x3 = true then (some 1) else (if x0 ≥ 48 then (serial_Class.j1 k x0 (decide (x0 ≤ 57))) else (serial_Class.j1 k x0 false))
def serial_Class.j1 : Nat → Int → Bool → Option (Int)
  | 0, _, _ => none
  | k + 1, x0, x18 => if x18 = true then (some 2) else (if x0 = 45 then (some 3) else (some 0))
end
def serial_Class.f (k : Nat) (a0 : Int) : Option (Int) := if a0 ≥ 97 then (if a0 ≤ 122 then (serial_Class.j0 k a0 true) else (if a0 ≥ 65 then (serial_Class.j0 k a0 (decide (a0 ≤ 90))) else (serial_Class.j0 k a0 false))) else (if a0 ≥ 65 then (serial_Class.j0 k a0 (decide (a0 ≤ 90))) else (serial_Class.j0 k a0 false))
set_option maxHeartbeats 8000000 in
set_option maxRecDepth 100000 in
theorem serial_Class.calls (k : Nat) (a0 : Int) (r : Int) (w : World) (h : serial_Class.f k a0 = some r) :
    Calls Try.prog 283 #[.int .i32 a0] w fun e w' => e = .returned (.int .i64 r) ∧ Drawn0 w w' := by
  have H : (if a0 ≥ 97 then (if a0 ≤ 122 then (serial_Class.j0 k a0 true) else (if a0 ≥ 65 then (serial_Class.j0 k a0 (decide (a0 ≤ 90))) else (serial_Class.j0 k a0 false))) else (if a0 ≥ 65 then (serial_Class.j0 k a0 (decide (a0 ≤ 90))) else (serial_Class.j0 k a0 false))) = some r := h
  clear h
  have HC2 := zA H
  clear H
  go_enter Try.func283, Try.ntmps283
  go_upto_region 1 with (fail)
  go_cut [3] (fun v3 wc => ∃ (kq : Nat) (x3_1 : Bool), v3 = .bool x3_1 ∧ Aside0 (serial_Class.j0 kq a0 x3_1 = some r) ∧ Aside0 (kq ≤ k) ∧ Drawn0 w wc)
  case first =>
    have H := HC2.out; clear HC2; by_cases c3 : a0 ≥ 97
    · rw [if_pos c3] at H
      have c3b0 : decide (97 ≤ a0) = true := zFq c3; clear c3; (first | rw [c3b0] | (simp only [i64_w, i32_w]; rw [c3b0]) | skip)
      by_cases c4 : a0 ≤ 122
      · rw [if_pos c4] at H
        have c4b0 : decide (a0 ≤ 122) = true := zFq c4; clear c4; have H' := zA H; clear H; go_wp2; go_meet
        case rel => exact ⟨_, (true), (by first | rfl | (simp; done) | (simp [*]; done)), H', ⟨by first | omega | exact Nat.le_refl _⟩, by repeat (first | exact Drawn0.refl _ | apply Drawn0.step)⟩
      rw [if_neg c4] at H; have c4b0 : decide (a0 ≤ 122) = false := zGq c4; clear c4; by_cases c5 : a0 ≥ 65
      · rw [if_pos c5] at H
        have c5b0 : decide (65 ≤ a0) = true := zFq c5; clear c5; have H' := zA H; clear H; go_wp2; go_meet
        case rel => exact ⟨_, (decide (a0 ≤ 90)), (by first | rfl | (simp; done) | (simp [*]; done)), H', ⟨by first | omega | exact Nat.le_refl _⟩, by repeat (first | exact Drawn0.refl _ | apply Drawn0.step)⟩
      rw [if_neg c5] at H; have c5b0 : decide (65 ≤ a0) = false := zGq c5; clear c5; have H' := zA H; clear H; go_wp2; go_meet
      case rel => exact ⟨_, (false), (by first | rfl | (simp; done) | (simp [*]; done)), H', ⟨by first | omega | exact Nat.le_refl _⟩, by repeat (first | exact Drawn0.refl _ | apply Drawn0.step)⟩
    rw [if_neg c3] at H; have c3b0 : decide (97 ≤ a0) = false := zGq c3; clear c3; (first | rw [c3b0] | (simp only [i64_w, i32_w]; rw [c3b0]) | skip)
    by_cases c6 : a0 ≥ 65
    · rw [if_pos c6] at H
      have c6b0 : decide (65 ≤ a0) = true := zFq c6; clear c6; have H' := zA H; clear H; go_wp2; go_meet
      case rel => exact ⟨_, (decide (a0 ≤ 90)), (by first | rfl | (simp; done) | (simp [*]; done)), H', ⟨by first | omega | exact Nat.le_refl _⟩, by repeat (first | exact Drawn0.refl _ | apply Drawn0.step)⟩
    rw [if_neg c6] at H; have c6b0 : decide (65 ≤ a0) = false := zGq c6; clear c6; have H' := zA H; clear H; go_wp2; go_meet
    case rel => exact ⟨_, (false), (by first | rfl | (simp; done) | (simp [*]; done)), H', ⟨by first | omega | exact Nat.le_refl _⟩, by repeat (first | exact Drawn0.refl _ | apply Drawn0.step)⟩
  case rest =>
    clear HC2; try clear c2
    try clear p2
    try clear c3
    try clear c3b0
    try clear c4
    try clear c4b0
    try clear c5
    try clear c5b0
    try clear c6
    try clear c6b0
    obtain ⟨kq, x3_1, rfl, HA, HJ1, ⟨mc1, rfl⟩⟩ := hcut; cases kq with
    | zero => exact absurd HA.out (by simp [serial_Class.j0])
    | succ kj1 =>
      have H := HA.out; clear HA; simp only [serial_Class.j0] at H; by_cases c7 : x3_1 = true
      · subst c7
        have H1 : (some 1) = some r := by first | (rw [if_pos rfl] at H; exact H) | rfl
        clear H; have H := H1; clear H1; obtain rfl := zKq H; go_wp2; go_ret; exact ⟨by first | rfl | (simp; done) | (simp [*]; done), by repeat (first | exact Drawn0.refl _ | apply Drawn0.step)⟩
      replace c7 := Bool.eq_false_iff.mpr c7; subst c7; have H1 : (if a0 ≥ 48 then (serial_Class.j1 kj1 a0 (decide (a0 ≤ 57))) else (serial_Class.j1 kj1 a0 false)) = some r := by first | (rw [if_neg (show ¬ (false = true) by decide)] at H; exact H) | rfl
      clear H; have H := H1; clear H1; have HC8 := zA H; clear H; go_upto_region 3 with (fail)
      go_cut [18] (fun v18 wc => ∃ (kq : Nat) (x18_7 : Bool), v18 = .bool x18_7 ∧ Aside0 (serial_Class.j1 kq a0 x18_7 = some r) ∧ Aside0 (kq ≤ kj1) ∧ Drawn0 w wc)
      case first =>
        have H := HC8.out; clear HC8; by_cases c9 : a0 ≥ 48
        · rw [if_pos c9] at H
          have c9b0 : decide (48 ≤ a0) = true := zFq c9; clear c9; (first | rw [c9b0] | (simp only [i64_w, i32_w]; rw [c9b0]) | skip)
          have H' := zA H; clear H; go_wp2; go_meet
          case rel => exact ⟨_, (decide (a0 ≤ 57)), (by first | rfl | (simp; done) | (simp [*]; done)), H', ⟨by have := HJ1.out; first | omega | exact Nat.le_refl _⟩, by repeat (first | exact Drawn0.refl _ | apply Drawn0.step)⟩
        rw [if_neg c9] at H; have c9b0 : decide (48 ≤ a0) = false := zGq c9; clear c9; (first | rw [c9b0] | (simp only [i64_w, i32_w]; rw [c9b0]) | skip)
        have H' := zA H; clear H; go_wp2; go_meet
        case rel => exact ⟨_, (false), (by first | rfl | (simp; done) | (simp [*]; done)), H', ⟨by have := HJ1.out; first | omega | exact Nat.le_refl _⟩, by repeat (first | exact Drawn0.refl _ | apply Drawn0.step)⟩
      case rest =>
        clear HC8; try clear c1
        try clear c2
        try clear p2
        try clear c3
        try clear c3b0
        try clear c4
        try clear c4b0
        try clear c5
        try clear c5b0
        try clear c6
        try clear c6b0
        try clear c7
        try clear c9
        try clear c9b0
        try clear p2
        obtain ⟨kq, x18_7, rfl, HA, HJ7, ⟨mc7, rfl⟩⟩ := hcut; cases kq with
        | zero => exact absurd HA.out (by simp [serial_Class.j1])
        | succ kj7 =>
          have H := HA.out; clear HA; simp only [serial_Class.j1] at H; by_cases c10 : x18_7 = true
          · subst c10
            have H1 : (some 2) = some r := by first | (rw [if_pos rfl] at H; exact H) | rfl
            clear H; have H := H1; clear H1; obtain rfl := zKq H; go_wp2; go_ret; exact ⟨by first | rfl | (simp; done) | (simp [*]; done), by repeat (first | exact Drawn0.refl _ | apply Drawn0.step)⟩
          replace c10 := Bool.eq_false_iff.mpr c10; subst c10; have H1 : (if a0 = 45 then (some 3) else (some 0)) = some r := by first | (rw [if_neg (show ¬ (false = true) by decide)] at H; exact H) | rfl
          clear H; have H := H1; clear H1; by_cases c11 : a0 = 45
          · rw [if_pos c11] at H
            have c11b0 : (a0 == 45) = true := beq_iff_eq.mpr c11; have c11b1 : (a0 != 45) = false := bne_eq_false_iff_eq.mpr c11; clear c11; obtain rfl := zKq H; go_wp2; go_ret; exact ⟨by first | rfl | (simp; done) | (simp [*]; done), by repeat (first | exact Drawn0.refl _ | apply Drawn0.step)⟩
          rw [if_neg c11] at H; have c11b0 : (a0 == 45) = false := beq_eq_false_iff_ne.mpr c11; have c11b1 : (a0 != 45) = true := bne_iff_ne.mpr c11; obtain rfl := zKq H; go_wp2; go_ret; exact ⟨by first | rfl | (simp; done) | (simp [*]; done), by repeat (first | exact Drawn0.refl _ | apply Drawn0.step)⟩
end Go.Proofs.Ytakkhomjpflkbaa.F
set_option linter.unusedVariables false
set_option linter.unusedSimpArgs false
namespace Go.Proofs.YtakkhomjpflkbaaX
open Go.RowKit
def clsI (r : Int) : Int := if (97 ≤ r ∧ r ≤ 122) ∨ (65 ≤ r ∧ r ≤ 90) then 1 else if 48 ≤ r ∧ r ≤ 57 then 2 else if r = 45 then 3 else 0
def upI (r : Int) : Int := if 97 ≤ r ∧ r ≤ 122 then r - 32 else r
def mayB (c last : Int) : Bool := c != 0 && (c != 3 || last != 3)
def okL : Int → List Int → Bool
  | _, [] => true
  | last, r :: rs => mayB (clsI r) last && okL (clsI r) rs
def runes (l : List UInt8) : List Int := l.map fun b => (b.toNat : Int)
def foldS (s : ByteArray) : ByteArray × Int :=
  if s.size < 1 ∨ s.size > 16 ∨ s.data.toList.getLast? = some 45 ∨ okL 3 (runes s.data.toList) = false then (⟨#[]⟩, 9)
  else (⟨((runes s.data.toList).map fun r => UInt8.ofNat (upI r).toNat).toArray⟩, 0)
def checkS (s : ByteArray) : Int := if (foldS s).2 = 0 ∧ (foldS s).1 = s then 0 else 9
theorem okL_bad {last r : Int} {rs : List Int} (h : mayB (clsI r) last = false) : okL last (r :: rs) = false := by simp [okL, h]
theorem okL_go {last r : Int} {rs : List Int} (h : mayB (clsI r) last = true) : okL last (r :: rs) = okL (clsI r) rs := by simp [okL, h]
theorem cls_high {r : Int} (h : 128 ≤ r) : clsI r = 0 := by unfold clsI; rw [if_neg (by omega), if_neg (by omega), if_neg (by omega)]
theorem mayB_zero {last : Int} : mayB 0 last = false := by simp [mayB]
theorem decode_high' (s : ByteArray) (i : Nat) (h : ¬ (s.get! i).toNat < 128) : 128 ≤ (Utf8.decode s i).1 := by
  unfold Utf8.decode
  simp only [Nat.add_zero]
  rw [if_neg (by omega)]
  have he : Utf8.runeError = 65533 := rfl
  (repeat' split) <;> simp_all <;> omega
theorem size_list (s : ByteArray) : s.data.toList.length = s.size := by rw [Array.length_toList]; rfl
theorem runes_length (l : List UInt8) : (runes l).length = l.length := by simp [runes]
theorem runes_drop (s : ByteArray) (i : Nat) (h : i < s.size) : (runes s.data.toList).drop i = ((s[i]'h).toNat : Int) :: (runes s.data.toList).drop (i + 1) := by
  rw [List.drop_eq_getElem_cons (by rw [runes_length, size_list]; exact h)]
  congr 1
  simp [runes]; rfl
theorem runes_take (s : ByteArray) (i : Nat) (h : i < s.size) : (runes s.data.toList).take (i + 1) = (runes s.data.toList).take i ++ [((s[i]'h).toNat : Int)] := by
  rw [List.take_succ_eq_append_getElem (by rw [runes_length, size_list]; exact h)]
  congr 1
  simp [runes]; rfl
theorem encode_ascii {n : Int} (h0 : 0 ≤ n) (h : n < 128) : Utf8.encode n = ⟨#[UInt8.ofNat n.toNat]⟩ := by
  unfold Utf8.encode
  have hv : Utf8.valid n = true := by simp [Utf8.valid]; omega
  simp only [hv, if_true]
  rw [if_pos (by omega)]
theorem foldl_ascii (ns : List Int) (h : ∀ n ∈ ns, 0 ≤ n ∧ n < 128) : ∀ s : ByteArray, ns.foldl (fun r n => r ++ Utf8.encode n) s = s ++ ⟨(ns.map fun n => UInt8.ofNat n.toNat).toArray⟩ := by
  induction ns with
  | nil => intro s; simp only [List.foldl_nil, List.map_nil]; exact (ByteArray.append_empty).symm
  | cons n ns ih =>
    intro s
    obtain ⟨h0, h1⟩ := h n List.mem_cons_self
    simp only [List.foldl_cons]
    rw [ih (fun m hm => h m (List.mem_cons_of_mem _ hm)), encode_ascii h0 h1]
    ext1
    simp [ByteArray.data_append]
theorem runes_ascii (ns : List Int) (h : ∀ n ∈ ns, 0 ≤ n ∧ n < 128) : runesBytes ns = ⟨(ns.map fun n => UInt8.ofNat n.toNat).toArray⟩ := by
  unfold runesBytes
  rw [foldl_ascii ns h]
  ext1
  simp [ByteArray.data_append]
end Go.Proofs.YtakkhomjpflkbaaX
set_option linter.unusedVariables false
namespace Go.Proofs
open Go.Shelf
def Try.lays100_ren : Go.Shelf.Ren := ⟨fun | 100 => 256 | 207 => 281 | n => n, fun | 9 => 9 | 4 => 4 | 3 => 3 | n => n, fun | n => n⟩
theorem Try.lays100 : Go.Proofs.Lays.n100 Try.prog Try.lays100_ren := {
  mixed := by kernel_rfl
  f100 := Try.func256.trans (congrArg some (by kernel_rfl))
  f207 := Try.func281.trans (congrArg some (by kernel_rfl))
  t3 := Try.underlying3
  a3 := Try.isAgg3
  z3 := Try.sizeOf3
  v3 := Try.zeroValue3
  t4 := Try.underlying4
  a4 := Try.isAgg4
  z4 := Try.sizeOf4
  v4 := Try.zeroValue4
  t9 := Try.underlying9
  a9 := Try.isAgg9
  z9 := Try.sizeOf9
  v9 := Try.zeroValue9 }
open Go.RowKit Go.Lib in
theorem Try.strings_HasSuffix (s p : ByteArray) (w : World) (hs : s.size ≤ 9223372036854775807) :
    Calls Try.prog 256 #[.string s, .string p] w fun e w' => e = .returned (.bool (Lib.hasSuffix s.data.toList p.data.toList)) ∧ w' = w := Any.strings_HasSuffix Try.lays100 s p w hs
def Try.lays195_ren : Go.Shelf.Ren := ⟨fun | 195 => 255 | n => n, fun | 9 => 9 | 3 => 3 | 0 => 0 | 4 => 4 | n => n, fun | n => n⟩
theorem Try.lays195 : Go.Proofs.Lays.n195 Try.prog Try.lays195_ren := {
  mixed := by kernel_rfl
  f195 := Try.func255.trans (congrArg some (by kernel_rfl))
  t0 := Try.underlying0
  a0 := Try.isAgg0
  z0 := Try.sizeOf0
  v0 := Try.zeroValue0
  t3 := Try.underlying3
  a3 := Try.isAgg3
  z3 := Try.sizeOf3
  v3 := Try.zeroValue3
  t4 := Try.underlying4
  a4 := Try.isAgg4
  z4 := Try.sizeOf4
  v4 := Try.zeroValue4
  t9 := Try.underlying9
  a9 := Try.isAgg9
  z9 := Try.sizeOf9
  v9 := Try.zeroValue9 }
open Go.RowKit in
theorem Try.utf8_RuneCountInString (s : ByteArray) (w : World) (hs : s.size < 9223372036854775807) :
    Calls Try.prog 255 #[.string s] w fun e w' => e = .returned (.int .i64 (Lib.runeCount s)) ∧ ∃ pos, w' = w.iter s pos := Any.utf8_RuneCountInString Try.lays195 s w hs
end Go.Proofs
namespace Go.Proofs.Ytakkhomjpflkbaa.F
open Go.RowKit Go.Proofs.YtakkhomjpflkbaaX Go.Proofs.YtakkhomjpflkbaaW.PrintWords Go.Proofs.YtakkhomjpflkbaaW.PrintLast Go.Proofs.YtakkhomjpflkbaaW.PrintMore
attribute [local go_sem] max2_int min2_int max_two min_two max_three min_three max_four min_four   
attribute [local go_sem high] str_geq str_leq str_gtr
set_option linter.unusedVariables false
set_option linter.unusedSimpArgs false
set_option maxHeartbeats 1000000 in
theorem stands1 (k : Nat) (r c last : Int) (b : Nat) (w : World) (hc : serial_Class.f k r = some c) (hb : w.heap[b]? = some (.cells #[.int .i64 last] 3 (0, 0))) :
    Calls Try.prog 282 #[.int .i32 r, .pointer (some ⟨b, 0, none⟩)] w fun e w' => e = .returned (.bool (mayB c last)) ∧ ∃ n, w' = (w.drewN n).setCell ⟨b, 0, none⟩ (.int .i64 c) := by
  have HC := zA hc
  have h0 : w.cell? ⟨b, 0, none⟩ = some (.int .i64 last) := by simp [World.cell?, hb]
  have hf : w.frozen? ⟨b, 0, none⟩ = false := by simp [World.frozen?, hb]
  clear hc hb
  by_cases c0 : c = 0
  · subst c0
    go_enter Try.func282, Try.ntmps282; go_wp2_with (go_at_call 283; refine (serial_Class.calls k _ _ _ HC.out).mono ?_; rintro e w' ⟨rfl, ⟨nd, rfl⟩⟩); go_ret; exact ⟨by simp [mayB], nd, by simp⟩
  have e0 : (c != 0) = true := bne_iff_ne.2 c0
  by_cases c3 : c = 3
  · subst c3
    clear c0 e0; by_cases l3 : last = 3
    · subst l3
      go_enter Try.func282, Try.ntmps282; go_wp2_with (go_at_call 283; refine (serial_Class.calls k _ _ _ HC.out).mono ?_; rintro e w' ⟨rfl, ⟨nd, rfl⟩⟩); go_ret; exact ⟨by simp [mayB], nd, by simp⟩
    have e1 : (last != 3) = true := bne_iff_ne.2 l3; clear l3; go_enter Try.func282, Try.ntmps282; go_wp2_with (go_at_call 283; refine (serial_Class.calls k _ _ _ HC.out).mono ?_; rintro e w' ⟨rfl, ⟨nd, rfl⟩⟩); go_ret; exact ⟨by simp [mayB, e1], nd, by simp⟩
  have e1 : (c != 3) = true := bne_iff_ne.2 c3
  clear c0 c3
  go_enter Try.func282, Try.ntmps282
  go_wp2_with (go_at_call 283; refine (serial_Class.calls k _ _ _ HC.out).mono ?_; rintro e w' ⟨rfl, ⟨nd, rfl⟩⟩)
  go_ret
  exact ⟨by simp [mayB, e0, e1], nd, by simp⟩
theorem runeCount_pos (s : ByteArray) (h : 0 < s.size) : 1 ≤ Lib.runeCount s := by
  unfold Lib.runeCount
  obtain ⟨n, hn⟩ : ∃ n, s.size = n + 1 := ⟨s.size - 1, by omega⟩
  rw [hn]
  unfold Lib.runeCountFrom
  rw [if_pos h]; omega
theorem runeCount_step {s : ByteArray} {i : Nat} (h : Lib.runeCountFrom s (s.size - i) i + i = Lib.runeCount s) (hp : i < s.size) (ha : (s[i]'hp).toNat < 128) : Lib.runeCountFrom s (s.size - (i + 1)) (i + 1) + (i + 1) = Lib.runeCount s := by
  rw [show s.size - i = (s.size - (i + 1)) + 1 by omega] at h
  have h2 : Lib.runeCountFrom s (s.size - (i + 1) + 1) i = 1 + Lib.runeCountFrom s (s.size - (i + 1)) (i + 1) := by
    rw [Lib.runeCountFrom, if_pos hp, decode_ascii s i hp ha]
  rw [h2] at h
  omega
theorem suffix_last {l : List UInt8} : Lib.hasSuffix l [45] = true ↔ l.getLast? = some 45 := by
  unfold Lib.hasSuffix
  rw [List.isSuffixOf_iff_suffix]
  constructor
  · rintro ⟨t, rfl⟩; simp
  intro h
  rw [List.getLast?_eq_some_iff] at h
  obtain ⟨t, rfl⟩ := h
  exact ⟨t, rfl⟩
theorem runeCount_ascii (s : ByteArray) (h : ∀ i (hi : i < s.size), (s[i]'hi).toNat < 128) : ∀ (d b pos : Nat), s.size - pos = d → pos ≤ s.size → d ≤ b → Lib.runeCountFrom s b pos = d := by
  intro d
  induction d with
  | zero =>
    intro b pos hd hp hb
    exact Lib.runeCountFrom_end s b pos (by omega)
  | succ d ih =>
    intro b pos hd hp hb
    obtain ⟨b, rfl⟩ : ∃ c, b = c + 1 := ⟨b - 1, by omega⟩
    have hlt : pos < s.size := by omega
    unfold Lib.runeCountFrom
    rw [if_pos hlt, decode_ascii s pos hlt (h pos hlt)]
    show 1 + Lib.runeCountFrom s b (pos + 1) = d + 1
    rw [ih b (pos + 1) (by omega) (by omega) (by omega)]
    omega
theorem okL_all (l : List Int) : ∀ last, okL last l = true → ∀ r ∈ l, r < 128 := by
  induction l with
  | nil => intro _ _ r h; cases h
  | cons a l ih =>
    intro last h r hr
    simp only [okL, Bool.and_eq_true] at h
    rcases List.mem_cons.1 hr with rfl | hr
    · apply Classical.byContradiction
      intro hn
      rw [cls_high (by omega), mayB_zero] at h
      exact absurd h.1 (by decide)
    exact ih _ h.2 r hr
theorem okL_size {s : ByteArray} (h : okL 3 (runes s.data.toList) = true) : Lib.runeCount s = s.size := by
  unfold Lib.runeCount
  refine runeCount_ascii s (fun i hi => ?_) s.size s.size 0 (by omega) (by omega) (Nat.le_refl _)
  have := okL_all _ _ h (((s[i]'hi).toNat : Nat) : Int) (List.mem_map.2 ⟨s[i]'hi, ?_, rfl⟩)
  · omega
  rw [List.mem_iff_getElem]
  exact ⟨i, by rw [size_list]; exact hi, rfl⟩
theorem own_keep {k : IntKind} {e base : Nat} {ok : Nat → Prop} {w w1 : World} {v : Value} {xs : List Int} (h : Kd.R (Kd.int k) e w base ok v xs) (hk : ∀ g, v.ownBlock = some g → w1.heap[g]? = w.heap[g]?) : Kd.R (Kd.int k) e w1 base ok v xs := by
  obtain ⟨h0, inner, ho, hr⟩ := h
  refine ⟨h0, inner, ⟨ho.1, ?_⟩, hr⟩
  rcases ho.2 with hn | ⟨g, cap, cur, hv, hb, hg, rest⟩
  · exact .inl hn
  exact .inr ⟨g, cap, cur, hv, hb, (hk g (by rw [hv]; rfl)).trans hg, rest⟩
theorem infoRune : (Try.prog.info? 21).map (fun i => (i.zero, i.size, i.bytes)) = some (some (.int .i32 0), 1, 4) := by kernel_rfl
theorem class_f (r : Int) : serial_Class.f 20 r = some (clsI r) := by
  unfold serial_Class.f clsI
  simp only [serial_Class.j0, serial_Class.j1]
  (repeat' split) <;> simp_all <;> omega
theorem folded_f {r : Int} (h0 : 0 ≤ r) (h : r < 128) : serial_folded.f r = some (upI r) := by
  unfold serial_folded.f upI wrap32
  (repeat' split) <;> simp_all <;> omega
theorem stands_made (w : World) : Calls Try.prog 257 #[] w fun e w' => e = .returned (.func (.func 282) #[] #[.pointer (some ⟨w.heap.size, 0, none⟩)]) ∧ w' = w.alloc (.cells #[.int .i64 3] 3) := by
  have hmf : ∀ (fn : Fn) (first cap : Array Value) (w : World), (Instr.makeFunc fn first cap).run Try.prog w = .ok (.func fn first cap) w := fun _ _ _ _ => rfl
  go_enter Try.func257, Try.ntmps257
  go_wp2
  go_ret
  exact ⟨rfl, rfl⟩
def serial_Fold.f (s : ByteArray) : Option (ByteArray × Int) := if s.size < 9223372036854775807 then some (foldS s) else none
set_option maxHeartbeats 4000000 in
set_option maxRecDepth 100000 in
theorem serial_Fold.calls (s : ByteArray) (r1 : ByteArray) (r2 : Int) (w : World) (h : serial_Fold.f s = some (r1, r2)) :
    Calls Try.prog 215 #[.string s] w fun e w' => e = .returned (.tuple #[.string r1, .int .i64 r2]) ∧ Below w.heap.size w w' := by
  unfold serial_Fold.f at h
  by_cases hs : s.size < 9223372036854775807
  · rw [if_pos hs] at h
    have H := zA (zKq h); have HS := zA hs; clear h; have hrc := Lib.runeCount_le s; by_cases hbad : Lib.runeCount s < 1 ∨ 16 < Lib.runeCount s
    · have hr : foldS s = (⟨#[]⟩, 9) := by
        unfold foldS
        by_cases hok : okL 3 (runes s.data.toList) = false
        · rw [if_pos (.inr (.inr (.inr hok)))]
        rcases hbad with hb | hb
        · by_cases h0 : s.size < 1
          · rw [if_pos (.inl h0)]
          exact absurd (runeCount_pos s (by omega)) (by omega)
        rw [if_pos (.inr (.inl (by omega)))]
      have hH := H.out; rw [hr] at hH; simp only [zOq] at hH; obtain ⟨rfl, rfl⟩ := hH; rcases hbad with hb | hb
      · have t1 : decide ((Lib.runeCount s : Int) < 1) = true := zFq (by omega)
        clear hb hs; go_enter Try.func215, Try.ntmps215; go_wp2_with (first
          | (go_at_call 255; refine (Try.utf8_RuneCountInString _ _ (by have := HS.out; omega)).mono ?_; rintro e w1 ⟨rfl, ⟨pos, rfl⟩⟩))
        go_ret2; exact ⟨rfl, zD (Below.refl _ _) _⟩
      have t1 : decide ((Lib.runeCount s : Int) < 1) = false := zGq (by omega); have t2 : decide (16 < (Lib.runeCount s : Int)) = true := zFq (by omega); clear hb hs; go_enter Try.func215, Try.ntmps215; go_wp2_with (first
        | (go_at_call 255; refine (Try.utf8_RuneCountInString _ _ (by have := HS.out; omega)).mono ?_; rintro e w1 ⟨rfl, ⟨pos, rfl⟩⟩))
      go_ret2; exact ⟨rfl, zD (Below.refl _ _) _⟩
    have t1 : decide ((Lib.runeCount s : Int) < 1) = false := zGq (by omega); have t2 : decide (16 < (Lib.runeCount s : Int)) = false := zGq (by omega); by_cases hsuf : Lib.hasSuffix s.data.toList [45] = true
    · have hr : foldS s = (⟨#[]⟩, 9) := by
        unfold foldS
        rw [if_pos (.inr (.inr (.inl (suffix_last.1 hsuf))))]
      have hH := H.out; rw [hr] at hH; simp only [zOq] at hH; obtain ⟨rfl, rfl⟩ := hH; have HSf := zA hsuf; clear hs hbad hsuf hr hrc; go_enter Try.func215, Try.ntmps215; go_wp2_with (first
        | (go_at_call 255; refine (Try.utf8_RuneCountInString _ _ (by have := HS.out; omega)).mono ?_; rintro e w1 ⟨rfl, ⟨pos, rfl⟩⟩)
        | (go_at_call 256; refine (Try.strings_HasSuffix _ _ _ (by have := HS.out; omega)).mono ?_; rintro e w2 ⟨rfl, rfl⟩; rw [show Lib.hasSuffix s.data.toList (ByteArray.mk #[45]).data.toList = true from HSf.out]))
      go_ret2; exact ⟨rfl, zD (Below.refl _ _) _⟩
    have HSf := zA (Bool.eq_false_iff.2 hsuf); have HN := zA (show 1 ≤ Lib.runeCount s ∧ Lib.runeCount s ≤ 16 by omega); have hmk : ∀ W, (Instr.makeSlice 339 (.int .i64 0) (.int .i64 (Lib.runeCount s : Int))).run Try.prog W = .ok (.slice (some ⟨W.heap.size, 0, none⟩) 0 (Lib.runeCount s)) (W.alloc (.cells (madeCells (Value.int .i32 0).cells (Lib.runeCount s)) 21)) := by
      intro W; obtain ⟨i0, hi, hzz⟩ := Option.map_eq_some_iff.1 infoRune; simp only [zOq] at hzz; have := run_makeSlice (P := Try.prog) W 339 21 i0 (.int .i32 0) Try.underlying339 hi hzz.1 .i64 .i64 0 (Lib.runeCount s) (by omega) (by omega) (by rw [hzz.2.1]; simp; omega) (by rw [hzz.2.2]; omega) (by omega); rw [hzz.2.1] at this; simpa using this
    clear hs hbad hsuf hrc; go_enter Try.func215, Try.ntmps215; go_wp2_with (first
      | (go_at_call 255; refine (Try.utf8_RuneCountInString _ _ (by have := HS.out; omega)).mono ?_; rintro e w1 ⟨rfl, ⟨pos, rfl⟩⟩)
      | (go_at_call 256; refine (Try.strings_HasSuffix _ _ _ (by have := HS.out; omega)).mono ?_; rintro e w2 ⟨rfl, rfl⟩; rw [show Lib.hasSuffix s.data.toList (ByteArray.mk #[45]).data.toList = false from HSf.out])
      | (go_at_call 257; refine (stands_made _).mono ?_; rintro e w2 ⟨rfl, rfl⟩))
    obtain ⟨W0, hW0⟩ : ∃ W0, W0 = w.iter s pos := ⟨_, rfl⟩
    rw [← hW0]; have HB0 := zA (show Below w.heap.size w W0 by rw [hW0]; exact zD (Below.refl _ _) _); clear hW0; clear hmk t1 t2; go_loopw [6] (fun v6 wr => ∃ (i : Nat) (last : Int), i ≤ s.size ∧ Aside0 (Kd.R (Kd.int .i32) 21 wr W0.heap.size (fun k => k ≠ W0.heap.size ∧ k ≠ W0.heap.size + 1 + 1) v6 (((runes s.data.toList).take i).map upI)) ∧ Aside0 (wr.heap[W0.heap.size + 1 + 1]? = some (.stringIter s i)) ∧ Aside0 (wr.heap[W0.heap.size]? = some (.cells #[.int .i64 last] 3 (0, 0))) ∧ Aside0 (okL 3 (runes s.data.toList) = okL last ((runes s.data.toList).drop i)) ∧ Aside0 (Below W0.heap.size W0 wr) ∧ Aside0 (Lib.runeCountFrom s (s.size - i) i + i = Lib.runeCount s)) (fun _ wr => s.size - wr.iterPos (W0.heap.size + 1 + 1))
    case atStart =>
      refine ⟨0, 3, by omega, ⟨?_⟩, ⟨?_⟩, ⟨?_⟩, ⟨rfl⟩, ⟨?_⟩, ⟨rfl⟩⟩
      · refine own_keep (w := (W0.alloc (.cells #[.int .i64 3] 3)).alloc (.cells (madeCells (Value.int .i32 0).cells (Lib.runeCount s)) 21)) ⟨fun k hk => ?_, [], ?_, Reps.none _ _⟩ (fun g hg => ?_)
        · simp only [Value.ownBlock, zNq] at hk
          omega
        · have := World.ownsRow_made (e := 21) (size := (Kd.int .i32).sz) (base := W0.heap.size) (W0.alloc (.cells #[.int .i64 3] 3)) (madeCells (Value.int .i32 0).cells (Lib.runeCount s)) (Lib.runeCount s) (by simp) (by unfold maxLen; have := HN.out; omega) (by rw [size_madeCells]; exact (Nat.mul_one _).symm)
          simpa using this
        simp only [Value.ownBlock, zNq] at hg; subst hg; exact Below.heap_alloc _ _ _ (by simp)
      · have := World.iter_heap ((W0.alloc (.cells #[.int .i64 3] 3)).alloc (.cells (madeCells (Value.int .i32 0).cells (Lib.runeCount s)) 21)) s 0
        have e : ((W0.alloc (.cells #[.int .i64 3] 3)).alloc (.cells (madeCells (Value.int .i32 0).cells (Lib.runeCount s)) 21)).heap.size = W0.heap.size + 1 + 1 := by simp
        rw [e] at this; exact this
      · exact zZ (zZ (blk_new _ _) _) _
      exact zD (zD (zD (Below.refl _ _) _) _) _
    case round =>
      obtain ⟨i, last, hi, HO, HI, HL, HK, HB, HRC⟩ := hrel; have hlt2 : W0.heap.size + 1 + 1 < wr.heap.size := blk_lt HI.out; by_cases hp : i < s.size
      · have hd := runes_drop s i hp
        by_cases ha : (s[i]'hp).toNat < 128
        · obtain ⟨Wn, hWn⟩ : ∃ Wn, Wn = wr.iterAt (W0.heap.size + 1 + 1) s (i + 1) := ⟨_, rfl⟩
          have hnx : ∀ ty, (Instr.next (.pointer (some ⟨W0.heap.size + 1 + 1, 0, none⟩)) true ty).run Try.prog wr = .ok (.tuple #[.bool true, .int .i64 i, .int .i32 (s[i]'hp).toNat]) Wn := fun ty => by rw [hWn]; exact Lib.run_next_ascii_at wr _ s i ty HI.out hp ha
          have HI1 := zA (show Wn.heap[W0.heap.size + 1 + 1]? = some (.stringIter s (i + 1)) by rw [hWn]; exact Lib.iterAt_heap wr _ s i (i + 1) HI.out); have HL1 := zA (show Wn.heap[W0.heap.size]? = some (.cells #[.int .i64 last] 3 (0, 0)) by rw [hWn, Lib.iterAt_other _ _ _ _ _ (by omega)]; exact HL.out); have HB1 := zA (show Below W0.heap.size W0 Wn by rw [hWn]; exact Lib.below_iterAt HB.out (by omega) s (i + 1)); have HO1 := zA (show Kd.R (Kd.int .i32) 21 Wn W0.heap.size (fun k => k ≠ W0.heap.size ∧ k ≠ W0.heap.size + 1 + 1) u6 (((runes s.data.toList).take i).map upI) by rw [hWn]; exact own_keep HO.out (fun g hg => Lib.iterAt_other _ _ _ _ _ (HO.out.1 g hg).2)); clear hWn; obtain ⟨r, hr⟩ : ∃ r : Int, r = ((s[i]'hp).toNat : Int) := ⟨_, rfl⟩
          rw [← hr] at hd hnx; have hr0 : 0 ≤ r ∧ r < 128 := by omega
          have HK2 := zA (HK.out.trans (congrArg (okL last) hd)); have HR := zA hr0; have HT := zA (show (runes s.data.toList).take (i + 1) = (runes s.data.toList).take i ++ [r] by rw [hr]; exact runes_take s i hp); have HP := zA hp; clear hd hr hr0; cases hm : mayB (clsI r) last with
          | false =>
            have hH := H.out; have hf : foldS s = (⟨#[]⟩, 9) := by
              unfold foldS
              rw [if_pos (.inr (.inr (.inr (HK2.out.trans (okL_bad hm)))))]
            rw [hf] at hH; simp only [zOq] at hH; obtain ⟨rfl, rfl⟩ := hH; have HM := zA hm; clear hm hf; go_wp2_with (first
              | (go_at_call 282; refine (stands1 20 r (clsI r) last W0.heap.size _ (class_f _) HL1.out).mono ?_; rintro e w2 ⟨rfl, ⟨nd, rfl⟩⟩; rw [HM.out]))
            go_ret2; exact ⟨rfl, below_then HB0.out HB0.out.size (Below.setCell (zB HB1.out _) (Nat.le_refl _) _)⟩
          | true =>
            have HM := zA hm; clear hm; have HL3 : Aside0 ((((runes s.data.toList).take i).map upI).length ≤ i) := ⟨by simp; omega⟩
            have HSM := zA (show i < 1099511627776 by have := HRC.out; have := HN.out; omega); have HRC2 := zA (show Lib.runeCountFrom s (s.size - (i + 1)) (i + 1) + (i + 1) = Lib.runeCount s from runeCount_step HRC.out hp ha); go_wp2_with (first
              | (go_at_call 282; refine (stands1 20 r (clsI r) last W0.heap.size _ (class_f _) HL1.out).mono ?_; rintro e w2 ⟨rfl, ⟨nd, hw2⟩⟩; rw [HM.out]; have HI2 := zA (show w2.heap[W0.heap.size + 1 + 1]? = some (.stringIter s (i + 1)) by rw [hw2, Below.heap_setCell _ _ _ _ (show W0.heap.size + 1 + 1 ≠ W0.heap.size by omega)]; exact HI1.out); have HL2 := zA (show w2.heap[W0.heap.size]? = some (.cells #[.int .i64 (clsI r)] 3 (0, 0)) by rw [hw2]; exact blk_put (zY HL1.out nd) 0 _ rfl); have HB2 := zA (show Below W0.heap.size W0 w2 by rw [hw2]; exact Below.setCell (zB HB1.out _) (Nat.le_refl _) _); have HO2 := zA (own_keep (w1 := w2) HO1.out (fun g hg => by rw [hw2, Below.heap_setCell _ _ _ _ (HO1.out.1 g hg).1]; rfl)); clear hw2)
              | (go_at_call 258; refine (serial_folded.calls r (upI r) _ (folded_f HR.out.1 HR.out.2)).mono ?_; rintro e w3 ⟨rfl, ⟨nd2, rfl⟩⟩)
              | (at_builtin; refine Kd.R_append (Kd.int .i32) (w0 := W0) W0.heap.size rfl (.tmp 33) (.tmp 36) 339 21 (.int .i32 0) 4 rfl Try.underlying339 infoRune rfl (by decide) (by omega) _ (((runes s.data.toList).take i).map upI) (upI r) [.int .i32 (upI r)] (fun k => k ≠ W0.heap.size ∧ k ≠ W0.heap.size + 1 + 1) (fun _ => False) rfl rfl ?aP (fun _ hk => hk.elim) ?aF ?aO ?aB ?aS ?aL ?_; (case aP => exact rfl); (case aB => exact zB HB2.out _); (case aF => exact (fun k hk => by have h1 := blk_lt HI2.out; have h2 : w2.heap.size ≤ k := hk; omega)); (case aO => exact own_keep HO2.out (fun _ _ => rfl)); (case aS => exact HB2.out.size); (case aL => have := HL3.out; have := HSM.out; omega); intro v1 w4 ho hb hg hat; have HO4 := zA ho; have HB4 := zA hb; have HI4 := zA (blk_grown (zY HI2.out nd2) hg (fun e => (HO2.out.1 _ e.symm).2 rfl)); have HL4 := zA (blk_grown (zY HL2.out nd2) hg (fun e => (HO2.out.1 _ e.symm).1 rfl)); clear ho hb hg hat))
            go_roundw
            case rel =>
              refine ⟨i + 1, clsI r, by have := HP.out; omega, ⟨?_⟩, HI4, HL4, ⟨HK2.out.trans (okL_go HM.out)⟩, HB4, HRC2⟩; have := HO4.out; rw [HT.out, List.map_append]; exact this
            case measure =>
              have h1 : ∀ (W : World) (p : Nat), W.heap[W0.heap.size + 1 + 1]? = some (.stringIter s p) → W.iterPos (W0.heap.size + 1 + 1) = p := fun W p h => by unfold World.iterPos; rw [h]
              rw [h1 _ _ HI4.out, h1 _ _ HI.out]; have := HP.out; omega
        obtain ⟨Wn, hWn⟩ : ∃ Wn, Wn = wr.iterAt (W0.heap.size + 1 + 1) s (i + (Utf8.decode s i).2) := ⟨_, rfl⟩
        have hnx : ∀ ty, (Instr.next (.pointer (some ⟨W0.heap.size + 1 + 1, 0, none⟩)) true ty).run Try.prog wr = .ok (.tuple #[.bool true, .int .i64 i, .int .i32 (Utf8.decode s i).1]) Wn := fun ty => by rw [hWn]; exact Lib.run_next_any_at wr _ s i ty HI.out hp
        have HL1 := zA (show Wn.heap[W0.heap.size]? = some (.cells #[.int .i64 last] 3 (0, 0)) by rw [hWn, Lib.iterAt_other _ _ _ _ _ (by omega)]; exact HL.out); have HB1 := zA (show Below W0.heap.size W0 Wn by rw [hWn]; exact Lib.below_iterAt HB.out (by omega) s _); clear hWn; have hg : s.get! i = s[i]'hp := by simp [ByteArray.get!, hp]; rfl
        have hhi := decode_high' s i (by rw [hg]; exact ha); obtain ⟨r, hr⟩ : ∃ r : Int, r = ((Utf8.decode s i).1 : Int) := ⟨_, rfl⟩
        rw [← hr] at hnx; have hc0 : clsI r = 0 := cls_high (by omega); have hH := H.out; have hf : foldS s = (⟨#[]⟩, 9) := by
          unfold foldS
          exact if_pos (.inr (.inr (.inr (by rw [HK.out, hd]; exact okL_bad (by rw [cls_high (by omega)]; rfl)))))
        rw [hf] at hH; simp only [zOq] at hH; obtain ⟨rfl, rfl⟩ := hH; have HC0 := zA (show serial_Class.f 20 r = some 0 by rw [class_f, hc0]); clear hhi hr hf hd hg hc0; go_wp2_with (first
          | (go_at_call 282; refine (stands1 20 r 0 last W0.heap.size _ HC0.out HL1.out).mono ?_; rintro e w2 ⟨rfl, ⟨nd, rfl⟩⟩; rw [show mayB 0 last = false from mayB_zero]))
        go_ret2; exact ⟨rfl, below_then HB0.out HB0.out.size (Below.setCell (zB HB1.out _) (Nat.le_refl _) _)⟩
      have hnx : ∀ ty, (Instr.next (.pointer (some ⟨W0.heap.size + 1 + 1, 0, none⟩)) true ty).run Try.prog wr = .ok (.tuple #[.bool false]) wr := fun ty => Lib.run_next_end_at wr _ s i ty HI.out hp
      have hi' : i = s.size := by omega
      subst hi'; have hok : okL 3 (runes s.data.toList) = true := by
        rw [HK.out, List.drop_eq_nil_of_le (by rw [runes_length, size_list]; exact Nat.le_refl _)]; rfl
      have hsz := okL_size hok; have hN := HN.out; have hf : foldS s = (⟨((runes s.data.toList).map fun r => UInt8.ofNat (upI r).toNat).toArray⟩, 0) := by
        unfold foldS
        rw [if_neg]; rintro (h | h | h | h)
        · omega
        · omega
        · rw [← suffix_last, HSf.out] at h; cases h
        rw [hok] at h; cases h
      have hH := H.out; rw [hf] at hH; simp only [zOq] at hH; obtain ⟨hH1, rfl⟩ := hH; have hrb : runesBytes ((runes s.data.toList).map upI) = r1 := by
        rw [← hH1, runes_ascii]
        · rw [List.map_map]; rfl
        intro n hn; obtain ⟨m, hm, rfl⟩ := List.mem_map.1 hn; have h1 := okL_all _ _ hok m hm; obtain ⟨b, _, rfl⟩ := List.mem_map.1 hm; unfold upI
        split <;> omega
      have hcv : ∃ A l c, u6 = .slice A l c ∧ (convert 339 9 (.slice A l c)).run Try.prog wr = .ok (.string r1) wr := by
        have hO := HO.out; rw [List.take_of_length_le (by rw [runes_length, size_list]; exact Nat.le_refl _)] at hO; obtain ⟨A, c, rfl⟩ := Kd.R_slice hO; refine ⟨A, _, c, rfl, ?_⟩; obtain ⟨h1, h2, h3⟩ := Kd.R_reads' hO; have hl : 0 < ((runes s.data.toList).map upI).length := by rw [List.length_map, runes_length, size_list]; omega
        obtain ⟨ad, e1, _⟩ := Kd.at_int h3 (0 : Int) (by omega) (by omega); subst e1; have := run_convert_runes (P := Try.prog) wr 339 9 21 ad ((runes s.data.toList).map upI).length c ((runes s.data.toList).map upI) (Nat.le_refl _) Try.underlying339 Try.underlying21 Try.underlying9 (fun j hj => by
          obtain ⟨ad2, e2, hx⟩ := Kd.at_int h3 (j : Int) (by omega) (by omega); cases e2
          rw [Int.toNat_natCast] at hx; rw [hx]; rfl)
        rw [List.take_length, hrb] at this; exact this
      obtain ⟨A, l, c, rfl, hcv⟩ := hcv; have HCV := zA hcv; clear hf hrb hH1 hok hsz hN hcv; have hcv2 := HCV.out; go_wp2; go_ret2; exact ⟨rfl, below_then HB0.out HB0.out.size HB.out⟩
  rw [if_neg hs] at h; cases h
def serial_Check.f (a0 : ByteArray) : Option (Int) := (serial_Fold.f a0).bind fun bt101 => (if bt101.2 = 0 then (if bt101.1.toList = a0.toList then (some 0) else (some 9)) else (some 9))
set_option maxHeartbeats 8000000 in
set_option maxRecDepth 100000 in
theorem serial_Check.calls (a0 : ByteArray) (r : Int) (w : World) (h : serial_Check.f a0 = some r) :
    Calls Try.prog 137 #[.string a0] w fun e w' => e = .returned (.int .i64 r) ∧ Below w.heap.size w w' := by
  have HB := zA (Below.refl w.heap.size w)
  have H : ((serial_Fold.f a0).bind fun bt101 => (if bt101.2 = 0 then (if bt101.1.toList = a0.toList then (some 0) else (some 9)) else (some 9))) = some r := h
  clear h
  replace H := Option.bind_eq_some_iff.mp H
  obtain ⟨⟨t101, t102⟩, A20, H⟩ := H
  replace H : (if t102 = 0 then (if t101.toList = a0.toList then (some 0) else (some 9)) else (some 9)) = some r := H
  have A2 := zA A20
  clear A20
  by_cases c3 : t102 = 0
  · rw [if_pos c3] at H
    have c3b0 : (t102 == 0) = true := beq_iff_eq.mpr c3; have c3b1 : (t102 != 0) = false := bne_eq_false_iff_eq.mpr c3; clear c3; by_cases c4 : t101.toList = a0.toList
    · rw [if_pos c4] at H
      have c4b0 : (t101.toList == a0.toList) = true := beq_iff_eq.mpr c4; have c4b1 : (t101.toList != a0.toList) = false := bne_eq_false_iff_eq.mpr c4; clear c4; obtain rfl := zKq H; go_enter Try.func137, Try.ntmps137; go_wp2_with (first | ((with_reducible refine zJq (f := 215) rfl ?_); refine goesL_ (some 7) rfl rfl Try.func215 (by kernel_rfl) rfl #[.string a0] rfl (by (try simp only [zR, zS, zT]); first | done | rfl | (simp only [zP, zQ]; rfl)) ?_; (with_reducible refine (serial_Fold.calls a0 t101 t102 _ A2.out).mono ?_); rintro e w5 ⟨rfl, hb⟩; refine ⟨_, rfl, ?_⟩; have n0_ := zA (zV qB hb); clear HB; have HB := n0_; clear n0_; (try clear hb); (try clear hb2); (try clear hk); (try clear hi))); go_ret; exact ⟨qE, qB⟩
    rw [if_neg c4] at H; have c4b0 : (t101.toList == a0.toList) = false := beq_eq_false_iff_ne.mpr c4; have c4b1 : (t101.toList != a0.toList) = true := bne_iff_ne.mpr c4; obtain rfl := zKq H; go_enter Try.func137, Try.ntmps137; go_wp2_with (first | ((with_reducible refine zJq (f := 215) rfl ?_); refine goesL_ (some 7) rfl rfl Try.func215 (by kernel_rfl) rfl #[.string a0] rfl (by (try simp only [zR, zS, zT]); first | done | rfl | (simp only [zP, zQ]; rfl)) ?_; (with_reducible refine (serial_Fold.calls a0 t101 t102 _ A2.out).mono ?_); rintro e w6 ⟨rfl, hb⟩; refine ⟨_, rfl, ?_⟩; have n0_ := zA (zV qB hb); clear HB; have HB := n0_; clear n0_; (try clear hb); (try clear hb2); (try clear hk); (try clear hi))); go_ret; exact ⟨qE, qB⟩
  rw [if_neg c3] at H
  have c3b0 : (t102 == 0) = false := beq_eq_false_iff_ne.mpr c3
  have c3b1 : (t102 != 0) = true := bne_iff_ne.mpr c3
  obtain rfl := zKq H
  go_enter Try.func137, Try.ntmps137
  go_wp2_with (first | ((with_reducible refine zJq (f := 215) rfl ?_); refine goesL_ (some 7) rfl rfl Try.func215 (by kernel_rfl) rfl #[.string a0] rfl (by (try simp only [zR, zS, zT]); first | done | rfl | (simp only [zP, zQ]; rfl)) ?_; (with_reducible refine (serial_Fold.calls a0 t101 t102 _ A2.out).mono ?_); rintro e w7 ⟨rfl, hb⟩; refine ⟨_, rfl, ?_⟩; have n0_ := zA (zV qB hb); clear HB; have HB := n0_; clear n0_; (try clear hb); (try clear hb2); (try clear hk); (try clear hi)))
  go_ret
  exact ⟨qE, qB⟩
end Go.Proofs.Ytakkhomjpflkbaa.F
