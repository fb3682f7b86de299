-- merged and pruned by prune.py (the session's own program); its words go back to the kit's print
import Derived.Below
import Derived.Deep.Draws
import Derived.Deep.AppendLies
import Derived.Maps.AppendAt
import Derived.OwnWalk
import Derived.Laws.BytesArg
import Derived.Laws.MakeOwn
import Derived.Laws.OwnMore
import Derived.Deep.OwnRows
import Derived.Tactics
import Derived.Lib.ConvBytes
import Derived.Laws.Slices
import Derived.WalkKit
import Derived.KernelRfl
import Derived.RowKit3
import Derived.Deep.LoopGhost
import Derived.Deep.QuietTactic
import Derived.BigQuiet
import Derived.WideLaws
import Derived.Deep.DeepCutAuto
import Derived.Deep.CutBlock
import Derived.Deep.RegionHeld3
import Derived.Laws.Rows
import Derived.Lib.AppendStr
import Derived.ArgAppend
import Derived.Laws.IdiomCopy
import Derived.RowKit
import Derived.OrdersHeld
import Derived.Laws.BitsLemmas
import Derived.Deep.RegionLawGrows
import Derived.Lib.SliceRun
import Derived.Test.YtakkhomjpflkbaaProg
import Derived.Laws.StructEq
import Derived.Lib.OthersKept
import Derived.Lib.RuneCount
import Derived.Laws.Cover4
import Derived.Outline
import Derived.Shelf.Strings.Builder1
import Derived.Shelf.Strings.BuilderF
import Derived.Shelf.Strings.BuilderK
import Derived.Shelf.Utf8.RuneCount
import Derived.Shelf.Strings.Prefix
import Derived.Maps.Own
import Derived.Maps.OwnOps
import Derived.Maps.Views
import Derived.StringKeys
import Derived.Carry
import Derived.Test.YtakkhomjpflkbaaZRmaMakes0
set_option linter.unusedVariables false
set_option linter.unusedSimpArgs false
namespace Go.Proofs.YtakkhomjpflkbaaX
open Go.RowKit Go.Proofs.YtakkhomjpflkbaaW.PrintWords Go.Proofs.YtakkhomjpflkbaaW.PrintLast Go.Proofs.YtakkhomjpflkbaaW.PrintMore
def Flat {α : Type} (d : Kd α) : Prop := ∀ (w : World) (base : Nat) (ok : Nat → Prop) (x : α) (cs : List Value), d.K w x cs → d.M w base ok x cs
theorem C_cells {α : Type} {d : Kd α} {W : World} {ad : Addr} {n : Nat} {xs : List α} (h : d.C W (some ad) n xs) :
    ∃ inner, Reps (d.K W) d.sz xs inner ∧ ∀ j u, inner[j]? = some u → W.cell? (ad.add j) = some u := ReadsRow.inner_ h
theorem one_of_reps {α : Type} {d : Kd α} {W : World} {xs : List α} {cs : List Value} (hs0 : 0 < d.sz) (h : Reps (d.K W) d.sz xs cs) : ∀ u ∈ cs, u.oneCell' = true := by
  intro u hu
  obtain ⟨q, hq, rfl⟩ := List.mem_iff_getElem.1 hu
  have hql : q / d.sz < xs.length := by
    rw [Nat.div_lt_iff_lt_mul hs0, ← h.1]
    exact hq
  have h2 := h.2 (q / d.sz) _ (List.getElem?_eq_getElem hql)
  refine d.K_one h2 _ ?_
  have hlen := d.K_len h2
  rw [List.mem_iff_getElem]
  have hmod : q % d.sz < d.sz := Nat.mod_lt _ hs0
  refine ⟨q % d.sz, by rw [hlen]; exact hmod, ?_⟩
  rw [List.getElem_take, List.getElem_drop]
  congr 1
  rw [Nat.mul_comm]
  exact Nat.div_add_mod q d.sz
theorem R_empty_lit {α : Type} (d : Kd α) (e : Nat) (w : World) : d.R e (w.alloc (.cells #[] e)) w.heap.size (fun _ => True) (.slice (some ⟨w.heap.size, 0, none⟩) 0 0) [] := by
  have ho := World.ownsRow_lit (base := w.heap.size) (e := e) (size := d.sz) w #[] 0 (Nat.le_refl _) (by decide) (by simp)
  exact ⟨fun _ _ => trivial, [], by simpa using ho, Reps.none _ _⟩
theorem x_less_cons (a b : UInt8) (x y : List UInt8) : Op.bytesLess (a :: x) (b :: y) = true ↔ a.toNat < b.toNat ∨ (a = b ∧ Op.bytesLess x y = true) := by
  simp only [Op.bytesLess, Bool.or_eq_true, Bool.and_eq_true, decide_eq_true_eq, beq_iff_eq, UInt8.lt_iff_toNat_lt]
theorem x_less_or : ∀ (a b : List UInt8), (Op.bytesLess a b || a == b) = !(Op.bytesLess b a)
  | [], [] => rfl
  | [], _ :: _ => rfl
  | _ :: _, [] => by simp [Op.bytesLess]
  | a :: x, b :: y => by
    have ih := x_less_or x y
    rw [Bool.eq_iff_iff] at ih ⊢
    rw [Bool.or_eq_true, Bool.not_eq_true', beq_iff_eq] at ih ⊢
    rw [x_less_cons, ← Bool.not_eq_true, x_less_cons]
    rw [← Bool.not_eq_true] at ih
    constructor
    · rintro ((h | ⟨rfl, h⟩) | h)
      · rintro (g | ⟨g, _⟩)
        · omega
        subst g; omega
      · rintro (g | ⟨_, g⟩)
        · omega
        exact ih.1 (.inl h) g
      injection h with h1 h2
      subst h1
      rintro (g | ⟨_, g⟩)
      · omega
      exact ih.1 (.inr h2) g
    intro h
    by_cases h1 : a.toNat < b.toNat
    · exact .inl (.inl h1)
    have h2 : a = b := by
      apply UInt8.toNat_inj.1
      have : ¬ b.toNat < a.toNat := fun g => h (.inl g)
      omega
    subst h2
    rcases ih.2 (fun g => h (.inr ⟨rfl, g⟩)) with g | g
    · exact .inl (.inr ⟨rfl, g⟩)
    exact .inr (by rw [g])
theorem str_geq (t : TypeId) (a b : ByteArray) : binOp .geq t (.string a) (.string b) = pure (.bool !(Op.bytesLess a.toList b.toList)) := by simp [binOp, Op.stringOp]
theorem str_leq (t : TypeId) (a b : ByteArray) : binOp .leq t (.string a) (.string b) = pure (.bool !(Op.bytesLess b.toList a.toList)) := by
  rw [← x_less_or]; simp [binOp, Op.stringOp]
theorem str_gtr (t : TypeId) (a b : ByteArray) : binOp .gtr t (.string a) (.string b) = pure (.bool (Op.bytesLess b.toList a.toList)) := by
  have h := x_less_or a.toList b.toList
  have h2 : (!(Op.bytesLess a.toList b.toList || a.toList == b.toList)) = Op.bytesLess b.toList a.toList := by rw [h]; simp
  rw [← h2]; simp [binOp, Op.stringOp]
end Go.Proofs.YtakkhomjpflkbaaX
namespace Go.Proofs.Ytakkhomjpflkbaa.F
open Go.RowKit Go.Proofs.YtakkhomjpflkbaaX Go.Proofs.YtakkhomjpflkbaaW.PrintWords Go.Proofs.YtakkhomjpflkbaaW.PrintLast Go.Proofs.YtakkhomjpflkbaaW.PrintMore
attribute [local go_sem] max2_int min2_int max_two min_two max_three min_three max_four min_four   
attribute [local go_sem high] str_geq str_leq str_gtr
set_option linter.unusedVariables false
set_option linter.unusedSimpArgs false
def errW : Option (Int × Int) → Value
  | none => .nilIface
  | some c => .iface 192 (.agg #[.int .i64 c.1, .int .i64 c.2])
theorem errW_none : errW none = .nilIface := rfl
theorem errW_some (c : Int × Int) : errW (some c) = .iface 192 (.agg #[.int .i64 c.1, .int .i64 c.2]) := rfl
theorem info5 : (Try.prog.info? 5).map (fun i => (i.zero, i.size, i.bytes)) = some (some (.int .u8 0), 1, 1) := by kernel_rfl
theorem info9 : (Try.prog.info? 9).map (fun i => (i.zero, i.size, i.bytes)) = some (some (.string ⟨#[]⟩), 1, 16) := by kernel_rfl
theorem info97 : (Try.prog.info? 97).map (fun i => (i.zero, i.size, i.bytes)) = some (some (.agg #[(.int .i64 0), (.int .i64 0), (.int .i64 0)]), 3, 24) := by kernel_rfl
structure S97 where
  f0 : Int
  f1 : Int
  f2 : Int
def z97 : S97 := ⟨(0 : Int), (0 : Int), (0 : Int)⟩
def k97 : Kd S97 := Kd.iso (Kd.pair (Kd.int .i64) (Kd.pair (Kd.int .i64) (Kd.int .i64))) (fun x : S97 => (x.f0, x.f1, x.f2))
theorem k97_open {w : World} {x : S97} {cs : List Value} (h : k97.K w x cs) : cs = [.int .i64 x.f0, .int .i64 x.f1, .int .i64 x.f2] := by
  obtain ⟨_, _, rfl, rfl, ⟨_, _, rfl, rfl, rfl⟩⟩ := h
  exact rfl
theorem k97_openM {w : World} {base : Nat} {ok : Nat → Prop} {x : S97} {cs : List Value} (h : k97.M w base ok x cs) : cs = [.int .i64 x.f0, .int .i64 x.f1, .int .i64 x.f2] := by
  obtain ⟨_, _, rfl, rfl, ⟨_, _, rfl, rfl, rfl⟩⟩ := h
  exact rfl
theorem k97_mkM (w : World) (base : Nat) (ok : Nat → Prop) (x : S97)  : k97.M w base ok x [.int .i64 x.f0, .int .i64 x.f1, .int .i64 x.f2] := ⟨[.int .i64 x.f0], [.int .i64 x.f1, .int .i64 x.f2], rfl, rfl, ⟨[.int .i64 x.f1], [.int .i64 x.f2], rfl, rfl, rfl⟩⟩
def rd_T97 (xs : List S97) (i : Int) : S97 := xs.getD i.toNat z97
theorem at_T97 {w : World} {A : Option Addr} {n : Nat} {xs : List S97} (h : Kd.C k97 w A n xs) (i : Int) (h0 : 0 ≤ i) (h1 : i < n) : ∃ ad , A = some ad ∧ w.cell? (ad.add (i.toNat * 3)) = some (.int .i64 (rd_T97 xs i).f0) ∧ w.cell? ⟨(ad.add (i.toNat * 3)).block, (ad.add (i.toNat * 3)).off + 1, none⟩ = some (.int .i64 (rd_T97 xs i).f1) ∧ w.cell? ⟨(ad.add (i.toNat * 3)).block, (ad.add (i.toNat * 3)).off + 2, none⟩ = some (.int .i64 (rd_T97 xs i).f2) := by
  obtain ⟨ad, c, e, _, hK, hc0⟩ := Kd.C_get h z97 i h0 h1
  have hc : ∀ j u, c[j]? = some u → w.cell? (ad.add (i.toNat * 3 + j)) = some u := hc0
  obtain rfl := k97_open hK
  exact ⟨ad, e, hc 0 _ rfl, by rw [← add_field _ _ 1 (by omega)]; exact hc 1 _ rfl, by rw [← add_field _ _ 2 (by omega)]; exact hc 2 _ rfl⟩
structure S70 where
  f0 : Int
  f1 : Int
  f2 : Int
  f3 : Int
  f4 : (List S97)
def k70 : Kd S70 := Kd.iso (Kd.pair (Kd.int .i64) (Kd.pair (Kd.int .i64) (Kd.pair (Kd.int .i64) (Kd.pair (Kd.int .i64) (Kd.slice 97 k97))))) (fun x : S70 => (x.f0, x.f1, x.f2, x.f3, x.f4))
theorem k70_open {w : World} {x : S70} {cs : List Value} (h : k70.K w x cs) : ∃ A4 c4, cs = [.int .i64 x.f0, .int .i64 x.f1, .int .i64 x.f2, .int .i64 x.f3, .slice A4 x.f4.length c4] ∧ x.f4.length ≤ c4 ∧ k97.C w A4 x.f4.length x.f4 := by
  obtain ⟨_, _, rfl, rfl, ⟨_, _, rfl, rfl, ⟨_, _, rfl, rfl, ⟨_, _, rfl, rfl, ⟨A4, c4, rfl, l4, g4⟩⟩⟩⟩⟩ := h
  exact ⟨A4, c4, rfl, l4, g4⟩
structure S216 where
  f0 : Int
  f1 : Int
  f2 : Int
  f3 : Int
  f4 : (List ByteArray)
def z216 : S216 := ⟨(0 : Int), (0 : Int), (0 : Int), (0 : Int), ([] : List ByteArray)⟩
def k216 : Kd S216 := Kd.iso (Kd.pair (Kd.int .i64) (Kd.pair (Kd.int .i64) (Kd.pair (Kd.int .i64) (Kd.pair (Kd.int .i64) (Kd.slice 9 Kd.string))))) (fun x : S216 => (x.f0, x.f1, x.f2, x.f3, x.f4))
theorem k216_open {w : World} {x : S216} {cs : List Value} (h : k216.K w x cs) : ∃ A4 c4, cs = [.int .i64 x.f0, .int .i64 x.f1, .int .i64 x.f2, .int .i64 x.f3, .slice A4 x.f4.length c4] ∧ x.f4.length ≤ c4 ∧ Kd.string.C w A4 x.f4.length x.f4 := by
  obtain ⟨_, _, rfl, rfl, ⟨_, _, rfl, rfl, ⟨_, _, rfl, rfl, ⟨_, _, rfl, rfl, ⟨A4, c4, rfl, l4, g4⟩⟩⟩⟩⟩ := h
  exact ⟨A4, c4, rfl, l4, g4⟩
theorem k216_mk (w : World) (x : S216) {A4 : Option Addr} {c4 : Nat} (l4 : x.f4.length ≤ c4) (g4 : Kd.string.C w A4 x.f4.length x.f4) : k216.K w x [.int .i64 x.f0, .int .i64 x.f1, .int .i64 x.f2, .int .i64 x.f3, .slice A4 x.f4.length c4] := ⟨[.int .i64 x.f0], [.int .i64 x.f1, .int .i64 x.f2, .int .i64 x.f3, .slice A4 x.f4.length c4], rfl, rfl, ⟨[.int .i64 x.f1], [.int .i64 x.f2, .int .i64 x.f3, .slice A4 x.f4.length c4], rfl, rfl, ⟨[.int .i64 x.f2], [.int .i64 x.f3, .slice A4 x.f4.length c4], rfl, rfl, ⟨[.int .i64 x.f3], [.slice A4 x.f4.length c4], rfl, rfl, ⟨A4, c4, rfl, l4, g4⟩⟩⟩⟩⟩
theorem k216_mkF (W : World) (ok : Nat → Prop) (x : S216) {A4 : Option Addr} {c4 : Nat} (l4 : x.f4.length ≤ c4) (g4 : Kd.F Kd.string W ok A4 x.f4.length x.f4) : Kd.FK k216 W ok x [.int .i64 x.f0, .int .i64 x.f1, .int .i64 x.f2, .int .i64 x.f3, .slice A4 x.f4.length c4] := fun W2 hW => k216_mk W2 x l4 (g4 W2 hW)
def rd_T216 (xs : List S216) (i : Int) : S216 := xs.getD i.toNat z216
theorem at_T216 {w : World} {A : Option Addr} {n : Nat} {xs : List S216} (h : Kd.C k216 w A n xs) (i : Int) (h0 : 0 ≤ i) (h1 : i < n) : ∃ ad A4 c4, A = some ad ∧ w.cell? (ad.add (i.toNat * 5)) = some (.int .i64 (rd_T216 xs i).f0) ∧ w.cell? ⟨(ad.add (i.toNat * 5)).block, (ad.add (i.toNat * 5)).off + 1, none⟩ = some (.int .i64 (rd_T216 xs i).f1) ∧ w.cell? ⟨(ad.add (i.toNat * 5)).block, (ad.add (i.toNat * 5)).off + 2, none⟩ = some (.int .i64 (rd_T216 xs i).f2) ∧ w.cell? ⟨(ad.add (i.toNat * 5)).block, (ad.add (i.toNat * 5)).off + 3, none⟩ = some (.int .i64 (rd_T216 xs i).f3) ∧ w.cell? ⟨(ad.add (i.toNat * 5)).block, (ad.add (i.toNat * 5)).off + 4, none⟩ = some (.slice A4 (rd_T216 xs i).f4.length c4) ∧ (rd_T216 xs i).f4.length ≤ c4 ∧ Kd.string.C w A4 (rd_T216 xs i).f4.length (rd_T216 xs i).f4 := by
  obtain ⟨ad, c, e, _, hK, hc0⟩ := Kd.C_get h z216 i h0 h1
  have hc : ∀ j u, c[j]? = some u → w.cell? (ad.add (i.toNat * 5 + j)) = some u := hc0
  obtain ⟨A4, c4, rfl, l4, g4⟩ := k216_open hK
  exact ⟨ad, A4, c4, e, hc 0 _ rfl, by rw [← add_field _ _ 1 (by omega)]; exact hc 1 _ rfl, by rw [← add_field _ _ 2 (by omega)]; exact hc 2 _ rfl, by rw [← add_field _ _ 3 (by omega)]; exact hc 3 _ rfl, by rw [← add_field _ _ 4 (by omega)]; exact hc 4 _ rfl, l4, g4⟩
structure S73 where
  f0 : Int
  f1 : Int
  f2 : (List S216)
def k73 : Kd S73 := Kd.iso (Kd.pair (Kd.int .i64) (Kd.pair (Kd.int .i64) (Kd.slice 216 k216))) (fun x : S73 => (x.f0, x.f1, x.f2))
theorem k73_open {w : World} {x : S73} {cs : List Value} (h : k73.K w x cs) : ∃ A2 c2, cs = [.int .i64 x.f0, .int .i64 x.f1, .slice A2 x.f2.length c2] ∧ x.f2.length ≤ c2 ∧ k216.C w A2 x.f2.length x.f2 := by
  obtain ⟨_, _, rfl, rfl, ⟨_, _, rfl, rfl, ⟨A2, c2, rfl, l2, g2⟩⟩⟩ := h
  exact ⟨A2, c2, rfl, l2, g2⟩
theorem flat_k97 : Flat k97 := by
  intro w base ok x cs h
  exact h
theorem qA {P : Prop} (h : P := by first | (with_reducible assumption) | assumption) : P := h
theorem qB {P : Prop} (h : P := by repeat (first | (with_reducible first | exact HB.out | apply below_alloc | apply pw_below_drewN | apply below_drew1 | refine below_set ?_ (Aside0.out (by assumption))) | exact HB.out)) : P := h
theorem qC {Q P : Prop} (hq : Q) (h : Q → P := by intro h_; repeat (first | exact h_ | (with_reducible refine Kd.C_alloc ?_ _) | (with_reducible refine Kd.C_drewN ?_ _) | (with_reducible refine Kd.C_drew ?_))) : P := h hq
theorem qE {P : Prop} (h : P := by first | rfl | (simp [errW_none, errW_some] <;> rfl) | (simp [*, errW_none, errW_some] <;> rfl)) : P := h
theorem qN {P : Prop} (h : P := by first | exact Kd.R_nil _ _ _ _ _ | exact Kd.N_nil _ _ _ _ _ | exact Kd.V_nil _ _ _ _ _ | exact Kd.Q_nil _ _ _ _ _ | exact Kd.S_nil _ _ _ _ _) : P := h
theorem qP2 {w : World} {g : Nat} {t : TypeId} {v0 v1 u0 u1 : Value} (h : w.heap[g]? = some (.cells #[v0, v1] t (0, 0))) : ((w.setCell ⟨g, 0, none⟩ u0).setCell ⟨g, 1, none⟩ u1).heap[g]? = some (.cells #[u0, u1] t (0, 0)) := by refine blk_put (cs := #[u0, v1]) ?_ 1 _ rfl; refine blk_put (cs := #[v0, v1]) ?_ 0 _ rfl; exact h
theorem qP3 {w : World} {g : Nat} {t : TypeId} {v0 v1 v2 u0 u1 u2 : Value} (h : w.heap[g]? = some (.cells #[v0, v1, v2] t (0, 0))) : (((w.setCell ⟨g, 0, none⟩ u0).setCell ⟨g, 1, none⟩ u1).setCell ⟨g, 2, none⟩ u2).heap[g]? = some (.cells #[u0, u1, u2] t (0, 0)) := by refine blk_put (cs := #[u0, u1, v2]) ?_ 2 _ rfl; refine blk_put (cs := #[u0, v1, v2]) ?_ 1 _ rfl; refine blk_put (cs := #[v0, v1, v2]) ?_ 0 _ rfl; exact h
theorem qP5 {w : World} {g : Nat} {t : TypeId} {v0 v1 v2 v3 v4 u0 u1 u2 u3 u4 : Value} (h : w.heap[g]? = some (.cells #[v0, v1, v2, v3, v4] t (0, 0))) : (((((w.setCell ⟨g, 0, none⟩ u0).setCell ⟨g, 1, none⟩ u1).setCell ⟨g, 2, none⟩ u2).setCell ⟨g, 3, none⟩ u3).setCell ⟨g, 4, none⟩ u4).heap[g]? = some (.cells #[u0, u1, u2, u3, u4] t (0, 0)) := by refine blk_put (cs := #[u0, u1, u2, u3, v4]) ?_ 4 _ rfl; refine blk_put (cs := #[u0, u1, u2, v3, v4]) ?_ 3 _ rfl; refine blk_put (cs := #[u0, u1, v2, v3, v4]) ?_ 2 _ rfl; refine blk_put (cs := #[u0, v1, v2, v3, v4]) ?_ 1 _ rfl; refine blk_put (cs := #[v0, v1, v2, v3, v4]) ?_ 0 _ rfl; exact h
theorem qS {P : Prop} (h : P := by rw [hg]; exact (below_size (by repeat (first | (with_reducible first | exact HB.out | apply below_alloc | apply pw_below_drewN | apply below_drew1 | refine below_set ?_ (Aside0.out (by assumption))) | exact HB.out)))) : P := h
theorem qc2f {w : World} {g : Nat} {t : TypeId} {v0 v1 : Value} (h : w.heap[g]? = some (.cells #[v0, v1] t (0, 0))) : w.cell? ⟨g, 0, none⟩ = some v0 ∧ w.cell? ⟨g, 1, none⟩ = some v1 ∧ w.frozen? ⟨g, 0, none⟩ = false ∧ w.frozen? ⟨g, 1, none⟩ = false := ⟨(blk_cell h 0).trans rfl, (blk_cell h 1).trans rfl, blk_frozen h 0, blk_frozen h 1⟩
theorem qc3f {w : World} {g : Nat} {t : TypeId} {v0 v1 v2 : Value} (h : w.heap[g]? = some (.cells #[v0, v1, v2] t (0, 0))) : w.cell? ⟨g, 0, none⟩ = some v0 ∧ w.cell? ⟨g, 1, none⟩ = some v1 ∧ w.cell? ⟨g, 2, none⟩ = some v2 ∧ w.frozen? ⟨g, 0, none⟩ = false ∧ w.frozen? ⟨g, 1, none⟩ = false ∧ w.frozen? ⟨g, 2, none⟩ = false := ⟨(blk_cell h 0).trans rfl, (blk_cell h 1).trans rfl, (blk_cell h 2).trans rfl, blk_frozen h 0, blk_frozen h 1, blk_frozen h 2⟩
theorem qc5f {w : World} {g : Nat} {t : TypeId} {v0 v1 v2 v3 v4 : Value} (h : w.heap[g]? = some (.cells #[v0, v1, v2, v3, v4] t (0, 0))) : w.cell? ⟨g, 0, none⟩ = some v0 ∧ w.cell? ⟨g, 1, none⟩ = some v1 ∧ w.cell? ⟨g, 2, none⟩ = some v2 ∧ w.cell? ⟨g, 3, none⟩ = some v3 ∧ w.cell? ⟨g, 4, none⟩ = some v4 ∧ w.frozen? ⟨g, 0, none⟩ = false ∧ w.frozen? ⟨g, 1, none⟩ = false ∧ w.frozen? ⟨g, 2, none⟩ = false ∧ w.frozen? ⟨g, 3, none⟩ = false ∧ w.frozen? ⟨g, 4, none⟩ = false := ⟨(blk_cell h 0).trans rfl, (blk_cell h 1).trans rfl, (blk_cell h 2).trans rfl, (blk_cell h 3).trans rfl, (blk_cell h 4).trans rfl, blk_frozen h 0, blk_frozen h 1, blk_frozen h 2, blk_frozen h 3, blk_frozen h 4⟩
theorem qg {P : Prop} (h : P := by first | (go_simp; done) | (go_simp; rfl)) : P := h
theorem qr {P : Prop} (h : P := by rfl) : P := h
theorem qy {P : Prop} (h : P := by intro w'; go_simp; with_reducible rfl) : P := h
theorem qz {P : Prop} (h : P := by simp only [Act.put, List.setIfInBounds_toArray, List.set_cons_zero, List.set_cons_succ, i64_w, i32_w]; rfl) : P := h
theorem qL {W0 W : World} {g : Nat} {o : Obj} (h0 : W0.heap[g]? = some o) (h : W0.heap[g]? = some o → W.heap[g]? = some o := by intro h_; (with_reducible repeat (first | refine blk_drewN ?_ _ | refine blk_drew ?_ | refine blk_alloc ?_ _ | apply qP2 | apply qP3 | apply qP5 | refine blk_far ?_ (Aside0.out (by assumption)) _)); exact h_) : g < W.heap.size := blk_lt (h h0)
theorem qV {Q P : Prop} (hq : Q) (h : Q → P := by intro h_; (with_reducible repeat (first | refine blk_drewN ?_ _ | refine blk_drew ?_ | refine blk_alloc ?_ _ | apply qP2 | apply qP3 | apply qP5 | refine blk_far ?_ (Aside0.out (by assumption)) _)); exact h_) : P := h hq
theorem qW {Q P : Prop} (hq : Q) (h : Q → P := by intro h_; (with_reducible repeat (first | refine blk_drewN ?_ _ | refine blk_drew ?_ | refine blk_alloc ?_ _ | apply qP2 | apply qP3 | apply qP5 | refine blk_far ?_ (Aside0.out (by assumption)) _)); exact h_) : P := h hq
theorem qX {W0 W w1 : World} {g : Nat} {o : Obj} (h0 : W0.heap[g]? = some o) (hb : Below W.heap.size W w1) (h : W0.heap[g]? = some o → W.heap[g]? = some o := by intro h_; (with_reducible repeat (first | refine blk_drewN ?_ _ | refine blk_drew ?_ | refine blk_alloc ?_ _ | apply qP2 | apply qP3 | apply qP5 | refine blk_far ?_ (Aside0.out (by assumption)) _)); exact h_) : w1.heap[g]? = some o := blk_below (h h0) hb
abbrev o1 : Bool := true
abbrev o0 : Bool := false
abbrev zA := @Aside0.mk
abbrev zB := @pw_below_drewN
abbrev zC := @below_drew1
abbrev zD := @below_alloc
abbrev zE := @below_set
abbrev zF := @blk_cell
abbrev zG := @blk_frozen
abbrev zH := @List.setIfInBounds_toArray
abbrev zI := @List.set_cons_zero
abbrev zJ := @List.set_cons_succ
abbrev zP := @List.length_drop
abbrev zQ := @List.length_take
abbrev zR := @List.map_toArray
abbrev zS := @List.map_cons
abbrev zT := @List.map_nil
abbrev zV := @below_step
abbrev zW := @below_size
abbrev zX := @blk_below
abbrev zY := @blk_drewN
abbrev zZ := @blk_alloc
abbrev zAq := @blk_drew
abbrev zCq := @World.block_lt_of_cell?
abbrev zFq := @decide_eq_true
abbrev zGq := @decide_eq_false
abbrev zJq := @gate_callee
abbrev zKq := @Option.some.inj
abbrev zLq := @Nat.ne_of_lt
abbrev zMq := @Nat.ne_of_gt
abbrev zNq := @Option.some.injEq
abbrev zOq := @Prod.mk.injEq
def backhaullaw27_Few.f (a0_0 : Int) (a0_1 : Int) (a0_2 : Int) (a0_3 : Int) (l0_4 : List (S97)) : Option (Bool) := some (decide ((l0_4.length : Int) ≤ 40))
set_option maxHeartbeats 8000000 in
set_option maxRecDepth 100000 in
theorem backhaullaw27_Few.calls (a0_0 : Int) (a0_1 : Int) (a0_2 : Int) (a0_3 : Int) (A0_4 : Option Addr) (c0_4 : Nat) (l0_4 : List (S97)) (r : Bool) (w : World) (hr0_4 : Kd.C k97 w A0_4 l0_4.length l0_4) (hc0_4 : l0_4.length ≤ c0_4) (h : backhaullaw27_Few.f a0_0 a0_1 a0_2 a0_3 l0_4 = some r) :
    Calls Try.prog 47 #[.agg #[.int .i64 a0_0, .int .i64 a0_1, .int .i64 a0_2, .int .i64 a0_3, .slice A0_4 l0_4.length c0_4]] w fun e w' => e = .returned (.bool r) ∧ Below w.heap.size w w' := by
  have hu70 := Try.underlying70
  have HR0_4 := zA hr0_4
  have HC0_4 := zA hc0_4
  clear hr0_4 hc0_4
  have HB := zA (Below.refl w.heap.size w)
  have H : (some (decide ((l0_4.length : Int) ≤ 40))) = some r := h
  clear h
  obtain rfl := zKq H
  go_enter Try.func47, Try.ntmps47
  go_wp2_with (first | ((with_reducible refine gate_dst (N := 1) rfl ?_); refine box_event qr (N := 1) qr (cs := #[.int .i64 a0_0, .int .i64 a0_1, .int .i64 a0_2, .int .i64 a0_3, .slice A0_4 l0_4.length c0_4]) (t := 70) qg ?_; intro gb101 hg w2 hbox hb; have n0_ := zA (zV qB hb); have n1_ := zA (hbox); have n2_ := zA ((qS : w.heap.size ≤ gb101)); have n3_ := zA ((qS : w.heap.size ≤ gb101)); clear HB; have HB := n0_; have BK101 := n1_; have GW101 := n2_; have GE101 := n3_; clear n0_ n1_ n2_ n3_ hb hbox hg; obtain ⟨_, _, _, _, _, _, _, _, _, _⟩ := qc5f BK101.out))
  go_ret
  exact ⟨qE, qB⟩
mutual
def backhaullaw21_Few.l0 : Nat → List (S216) → Int → Option (Bool)
  | 0, _, _ => none
  | k + 1, x0, x3 => if x3 < (x0.length : Int) then (if 0 ≤ x3 then (if (((rd_T216 x0 x3).f4).length : Int) > 40 then (some false) else (backhaullaw21_Few.l1 k x0 x3 0)) else (none)) else (some true)
def backhaullaw21_Few.l1 : Nat → List (S216) → Int → Int → Option (Bool)
  | 0, _, _, _ => none
  | k + 1, x0, x3, x4 => if 0 ≤ x3 then (if x3 < (x0.length : Int) then (if x4 < (((rd_T216 x0 x3).f4).length : Int) then (if 0 ≤ x4 then (if ((rdOf ByteArray.empty ((rd_T216 x0 x3).f4) x4).size : Int) > 100 then (some false) else (backhaullaw21_Few.l1 k x0 x3 (wrap64 (x4 + 1)))) else (none)) else (backhaullaw21_Few.l0 k x0 (wrap64 (x3 + 1)))) else (none)) else (none)
end
def backhaullaw21_Few.f (k : Nat) (l0 : List (S216)) : Option (Bool) := if (l0.length : Int) > 20 then (some false) else (backhaullaw21_Few.l0 k l0 0)
theorem backhaullaw21_Few.mono_l : ∀ k, (∀ y0 y1, LeO (backhaullaw21_Few.l0 k y0 y1) (backhaullaw21_Few.l0 (k + 1) y0 y1)) ∧ (∀ y0 y1 y2, LeO (backhaullaw21_Few.l1 k y0 y1 y2) (backhaullaw21_Few.l1 (k + 1) y0 y1 y2))
  | 0 => ⟨fun _ _ r h => by simp [backhaullaw21_Few.l0] at h, fun _ _ _ r h => by simp [backhaullaw21_Few.l1] at h⟩
  | k + 1 => by
    obtain ⟨ih0, ih1⟩ := backhaullaw21_Few.mono_l k
    refine ⟨?_, ?_⟩
    · intro y0 y1
      unfold backhaullaw21_Few.l0
      repeat' first
      | (with_reducible exact ih0 _ _)
      | (with_reducible exact ih1 _ _ _)
      | (with_reducible exact LeO.refl _)
      | (with_reducible exact LeO.none _)
      | (with_reducible refine LeO.ite ?_ ?_)
      | (with_reducible refine LeO.bind ?_ (fun _ => ?_))
      | exact ih0 _ _
      | exact ih1 _ _ _
      | exact LeO.none _
      | refine LeO.ite ?_ ?_
      | refine LeO.bind ?_ (fun _ => ?_)
    intro y0 y1 y2
    unfold backhaullaw21_Few.l1
    repeat' first
    | (with_reducible exact ih0 _ _)
    | (with_reducible exact ih1 _ _ _)
    | (with_reducible exact LeO.refl _)
    | (with_reducible exact LeO.none _)
    | (with_reducible refine LeO.ite ?_ ?_)
    | (with_reducible refine LeO.bind ?_ (fun _ => ?_))
    | exact ih0 _ _
    | exact ih1 _ _ _
    | exact LeO.none _
    | refine LeO.ite ?_ ?_
    | refine LeO.bind ?_ (fun _ => ?_)
theorem backhaullaw21_Few.mono : ∀ a0 k, LeO (backhaullaw21_Few.f k a0) (backhaullaw21_Few.f (k + 1) a0) := by
  intro a0 k
  obtain ⟨ih0, ih1⟩ := backhaullaw21_Few.mono_l k
  unfold backhaullaw21_Few.f
  repeat' first
      | (with_reducible exact ih0 _ _)
      | (with_reducible exact ih1 _ _ _)
      | (with_reducible exact LeO.refl _)
      | (with_reducible exact LeO.none _)
      | (with_reducible refine LeO.ite ?_ ?_)
      | (with_reducible refine LeO.bind ?_ (fun _ => ?_))
      | exact ih0 _ _
      | exact ih1 _ _ _
      | exact LeO.none _
      | refine LeO.ite ?_ ?_
      | refine LeO.bind ?_ (fun _ => ?_)
set_option maxHeartbeats 8000000 in
set_option maxRecDepth 100000 in
theorem backhaullaw21_Few.calls (k : Nat) (A0 : Option Addr) (c0 : Nat) (l0 : List (S216)) (r : Bool) (w : World) (hr0 : Kd.C k216 w A0 l0.length l0) (hc0 : l0.length ≤ c0) (h : backhaullaw21_Few.f k l0 = some r) :
    Calls Try.prog 48 #[.slice A0 l0.length c0] w fun e w' => e = .returned (.bool r) ∧ Drawn0 w w' := by
  have HR0 := zA hr0
  have HC0 := zA hc0
  clear hr0 hc0
  have H : (if (l0.length : Int) > 20 then (some false) else (backhaullaw21_Few.l0 k l0 0)) = some r := h
  clear h
  by_cases c2 : (l0.length : Int) > 20
  · rw [if_pos c2] at H
    have c2b0 : decide (20 < (l0.length : Int)) = true := zFq c2; have c2b1 : decide (20 < l0.length) = true := zFq (by omega); clear c2; obtain rfl := zKq H; go_enter Try.func48, Try.ntmps48; go_wp2; go_ret; exact ⟨by first | rfl | (simp; done) | (simp [*]; done), by repeat (first | exact Drawn0.refl _ | apply Drawn0.step)⟩
  rw [if_neg c2] at H
  have c2b0 : decide (20 < (l0.length : Int)) = false := zGq c2
  have c2b1 : decide (20 < l0.length) = false := zGq (by omega)
  clear c2
  have H' := zA H
  clear H
  go_enter Try.func48, Try.ntmps48
  go_wp2
  go_loopg [3] k (fun kq v3 w' => ∃ (x3_1 : Int), v3 = .int .i64 x3_1 ∧ Aside0 (backhaullaw21_Few.l0 kq l0 x3_1 = some r) ∧ Aside0 (kq ≤ k) ∧ Drawn0 w w')
  case atStart => exact ⟨(0), (by first | rfl | (simp; done) | (simp [*]; done)), H', ⟨Nat.le_refl _⟩, by repeat (first | exact Drawn0.refl _ | apply Drawn0.step)⟩
  case round =>
    clear H'; try clear c2
    try clear c2b0
    try clear c2b1
    try clear p2
    obtain ⟨x3_1, rfl, HA, HK1, ⟨m1, rfl⟩⟩ := hrel; cases gk with
    | zero => exact absurd HA.out (by simp [backhaullaw21_Few.l0])
    | succ k1 =>
      have H := HA.out; clear HA; simp only [backhaullaw21_Few.l0] at H; by_cases c3 : x3_1 < (l0.length : Int)
      · rw [if_pos c3] at H
        have c3b0 : decide (x3_1 < (l0.length : Int)) = true := zFq c3; clear c3; by_cases c4 : 0 ≤ x3_1
        · rw [if_pos c4] at H
          have c4b0 : decide (0 ≤ x3_1) = true := zFq c4; clear c4; by_cases c5 : (((rd_T216 l0 x3_1).f4).length : Int) > 40
          · rw [if_pos c5] at H
            have c5b0 : decide (40 < (((rd_T216 l0 x3_1).f4).length : Int)) = true := zFq c5; have c5b1 : decide (40 < ((rd_T216 l0 x3_1).f4).length) = true := zFq (by omega); clear c5; obtain rfl := zKq H; have p101 : 0 ≤ (x3_1 : Int) := of_decide_eq_true qA; have q101 : x3_1 < (l0.length : Int) := of_decide_eq_true qA; obtain ⟨ad101, A101_4, c101_4, e101, hx101_0, hx101_1, hx101_2, hx101_3, hx101_4, hl101_4, hi101_4⟩ := at_T216 HR0.out x3_1 p101 q101; cases e101
            have HR101_4 := zA hi101_4; have HC101_4 := zA hl101_4; clear hi101_4 hl101_4; replace p101 := eq_true p101; replace q101 := eq_true q101; go_wp2; go_ret; exact ⟨by first | rfl | (simp; done) | (simp [*]; done), by repeat (first | exact Drawn0.refl _ | apply Drawn0.step)⟩
          rw [if_neg c5] at H; have c5b0 : decide (40 < (((rd_T216 l0 x3_1).f4).length : Int)) = false := zGq c5; have c5b1 : decide (40 < ((rd_T216 l0 x3_1).f4).length) = false := zGq (by omega); clear c5; have H' := zA H; clear H; have p101 : 0 ≤ (x3_1 : Int) := of_decide_eq_true qA; have q101 : x3_1 < (l0.length : Int) := of_decide_eq_true qA; obtain ⟨ad101, A101_4, c101_4, e101, hx101_0, hx101_1, hx101_2, hx101_3, hx101_4, hl101_4, hi101_4⟩ := at_T216 HR0.out x3_1 p101 q101; cases e101
          have HR101_4 := zA hi101_4; have HC101_4 := zA hl101_4; clear hi101_4 hl101_4; replace p101 := eq_true p101; replace q101 := eq_true q101; go_wp2; go_loopg [4] k1 (fun kq v4 w' => ∃ (x4_2 : Int), v4 = .int .i64 x4_2 ∧ Aside0 (backhaullaw21_Few.l1 kq l0 x3_1 x4_2 = some r) ∧ Aside0 (kq ≤ k1) ∧ Drawn0 w w')
          case atStart => exact ⟨(0), (by first | rfl | (simp; done) | (simp [*]; done)), H', ⟨Nat.le_refl _⟩, by repeat (first | exact Drawn0.refl _ | apply Drawn0.step)⟩
          case round =>
            clear H'; try clear c1
            try clear p1
            try clear q1
            try clear hx1
            try clear c2
            try clear c2b0
            try clear c2b1
            try clear p2
            try clear c3
            try clear c3b0
            try clear c4
            try clear c4b0
            try clear c5
            try clear c5b0
            try clear c5b1
            try clear hx101_0
            try clear hx101_1
            try clear hx101_2
            try clear hx101_3
            try clear hx101_4
            try clear p101
            try clear p2
            try clear q101
            obtain ⟨x4_2, rfl, HA, HK2, ⟨m2, rfl⟩⟩ := hrel; cases gk with
            | zero => exact absurd HA.out (by simp [backhaullaw21_Few.l1])
            | succ k2 =>
              have H := HA.out; clear HA; simp only [backhaullaw21_Few.l1] at H; by_cases c6 : 0 ≤ x3_1
              · rw [if_pos c6] at H
                have c6b0 : decide (0 ≤ x3_1) = true := zFq c6; clear c6; by_cases c7 : x3_1 < (l0.length : Int)
                · rw [if_pos c7] at H
                  have c7b0 : decide (x3_1 < (l0.length : Int)) = true := zFq c7; clear c7; by_cases c8 : x4_2 < (((rd_T216 l0 x3_1).f4).length : Int)
                  · rw [if_pos c8] at H
                    have c8b0 : decide (x4_2 < (((rd_T216 l0 x3_1).f4).length : Int)) = true := zFq c8; clear c8; by_cases c9 : 0 ≤ x4_2
                    · rw [if_pos c9] at H
                      have c9b0 : decide (0 ≤ x4_2) = true := zFq c9; clear c9; by_cases c10 : ((rdOf ByteArray.empty ((rd_T216 l0 x3_1).f4) x4_2).size : Int) > 100
                      · rw [if_pos c10] at H
                        have c10b0 : decide (100 < ((rdOf ByteArray.empty ((rd_T216 l0 x3_1).f4) x4_2).size : Int)) = true := zFq c10; have c10b1 : decide (100 < (rdOf ByteArray.empty ((rd_T216 l0 x3_1).f4) x4_2).size) = true := zFq (by omega); clear c10; obtain rfl := zKq H; have p102 : 0 ≤ (x3_1 : Int) := of_decide_eq_true qA; have q102 : x3_1 < (l0.length : Int) := of_decide_eq_true qA; obtain ⟨ad102, A102_4, c102_4, e102, hx102_0, hx102_1, hx102_2, hx102_3, hx102_4, hl102_4, hi102_4⟩ := at_T216 HR0.out x3_1 p102 q102; obtain rfl : ad101 = ad102 := (by injection e102)
                        have HR102_4 := zA hi102_4; have HC102_4 := zA hl102_4; clear hi102_4 hl102_4; replace p102 := eq_true p102; replace q102 := eq_true q102; have p103 : 0 ≤ (x3_1 : Int) := of_decide_eq_true qA; have q103 : x3_1 < (l0.length : Int) := of_decide_eq_true qA; obtain ⟨ad103, A103_4, c103_4, e103, hx103_0, hx103_1, hx103_2, hx103_3, hx103_4, hl103_4, hi103_4⟩ := at_T216 HR0.out x3_1 p103 q103; obtain rfl : ad101 = ad103 := (by injection e103)
                        have HR103_4 := zA hi103_4; have HC103_4 := zA hl103_4; clear hi103_4 hl103_4; replace p103 := eq_true p103; replace q103 := eq_true q103; have ea_ := zKq (hx102_4.symm.trans hx103_4); injection ea_ with ea_ en_ ec_
                        subst ea_; subst ec_; clear en_; have p104 : 0 ≤ (x4_2 : Int) := of_decide_eq_true qA; have q104 : x4_2 < (((rd_T216 l0 x3_1).f4).length : Int) := of_decide_eq_true qA; obtain ⟨ad104, e104, hx104_0⟩ := Kd.at_string HR103_4.out x4_2 p104 q104; cases e104
                        replace p104 := eq_true p104; replace q104 := eq_true q104; go_wp2; go_ret; exact ⟨by first | rfl | (simp; done) | (simp [*]; done), by repeat (first | exact Drawn0.refl _ | apply Drawn0.step)⟩
                      rw [if_neg c10] at H; have c10b0 : decide (100 < ((rdOf ByteArray.empty ((rd_T216 l0 x3_1).f4) x4_2).size : Int)) = false := zGq c10; have c10b1 : decide (100 < (rdOf ByteArray.empty ((rd_T216 l0 x3_1).f4) x4_2).size) = false := zGq (by omega); clear c10; have H' := zA H; clear H; have p102 : 0 ≤ (x3_1 : Int) := of_decide_eq_true qA; have q102 : x3_1 < (l0.length : Int) := of_decide_eq_true qA; obtain ⟨ad102, A102_4, c102_4, e102, hx102_0, hx102_1, hx102_2, hx102_3, hx102_4, hl102_4, hi102_4⟩ := at_T216 HR0.out x3_1 p102 q102; obtain rfl : ad101 = ad102 := (by injection e102)
                      have HR102_4 := zA hi102_4; have HC102_4 := zA hl102_4; clear hi102_4 hl102_4; replace p102 := eq_true p102; replace q102 := eq_true q102; have p103 : 0 ≤ (x3_1 : Int) := of_decide_eq_true qA; have q103 : x3_1 < (l0.length : Int) := of_decide_eq_true qA; obtain ⟨ad103, A103_4, c103_4, e103, hx103_0, hx103_1, hx103_2, hx103_3, hx103_4, hl103_4, hi103_4⟩ := at_T216 HR0.out x3_1 p103 q103; obtain rfl : ad101 = ad103 := (by injection e103)
                      have HR103_4 := zA hi103_4; have HC103_4 := zA hl103_4; clear hi103_4 hl103_4; replace p103 := eq_true p103; replace q103 := eq_true q103; have ea_ := zKq (hx102_4.symm.trans hx103_4); injection ea_ with ea_ en_ ec_
                      subst ea_; subst ec_; clear en_; have p104 : 0 ≤ (x4_2 : Int) := of_decide_eq_true qA; have q104 : x4_2 < (((rd_T216 l0 x3_1).f4).length : Int) := of_decide_eq_true qA; obtain ⟨ad104, e104, hx104_0⟩ := Kd.at_string HR103_4.out x4_2 p104 q104; cases e104
                      replace p104 := eq_true p104; replace q104 := eq_true q104; go_wp2; go_roundg k2
                      case measure => have := HK1.out; have := HK2.out; omega
                      case rel => exact ⟨(wrap64 (x4_2 + 1)), (by first | rfl | (simp; done) | (simp [*]; done)), H', ⟨by have := HK1.out; have := HK2.out; omega⟩, by repeat (first | exact Drawn0.refl _ | apply Drawn0.step)⟩
                    rw [if_neg c9] at H; exact absurd H (by simp)
                  rw [if_neg c8] at H; have c8b0 : decide (x4_2 < (((rd_T216 l0 x3_1).f4).length : Int)) = false := zGq c8; clear c8; have H' := zA H; clear H; have p102 : 0 ≤ (x3_1 : Int) := of_decide_eq_true qA; have q102 : x3_1 < (l0.length : Int) := of_decide_eq_true qA; obtain ⟨ad102, A102_4, c102_4, e102, hx102_0, hx102_1, hx102_2, hx102_3, hx102_4, hl102_4, hi102_4⟩ := at_T216 HR0.out x3_1 p102 q102; obtain rfl : ad101 = ad102 := (by injection e102)
                  have HR102_4 := zA hi102_4; have HC102_4 := zA hl102_4; clear hi102_4 hl102_4; replace p102 := eq_true p102; replace q102 := eq_true q102; go_wp2; go_roundg k2
                  case measure => have := HK1.out; have := HK2.out; omega
                  case rel => exact ⟨(wrap64 (x3_1 + 1)), (by first | rfl | (simp; done) | (simp [*]; done)), H', ⟨by have := HK1.out; have := HK2.out; omega⟩, by repeat (first | exact Drawn0.refl _ | apply Drawn0.step)⟩
                rw [if_neg c7] at H; exact absurd H (by simp)
              rw [if_neg c6] at H; exact absurd H (by simp)
        rw [if_neg c4] at H; exact absurd H (by simp)
      rw [if_neg c3] at H; have c3b0 : decide (x3_1 < (l0.length : Int)) = false := zGq c3; clear c3; obtain rfl := zKq H; go_wp2; go_ret; exact ⟨by first | rfl | (simp; done) | (simp [*]; done), by repeat (first | exact Drawn0.refl _ | apply Drawn0.step)⟩
def backhaullaw27_one.f  : Option (Int × Int × (List (S216))) := some (3, 0, (([(⟨1, 9, 9, 0, (([(⟨#[65]⟩ : ByteArray), (⟨#[66]⟩ : ByteArray)] : List ByteArray))⟩ : S216)] : List (S216))))
set_option maxHeartbeats 8000000 in
set_option maxRecDepth 100000 in
theorem backhaullaw27_one.calls  (r1 : Int) (r2 : Int) (r3 : List (S216)) (w : World) (h : backhaullaw27_one.f  = some (r1, r2, r3)) :
    Calls Try.prog 139 #[] w fun e w' => ∃ v2_ : Value, e = .returned (.agg #[.int .i64 r1, .int .i64 r2, v2_]) ∧ Kd.N k216 216 w' w.heap.size (fun k_ => (w.heap.size ≤ k_)) v2_ r3 ∧ Below w.heap.size w w' := by
  have hu73 := Try.underlying73
  have hu216 := Try.underlying216
  have HB := zA (Below.refl w.heap.size w)
  have H : (some (3, 0, (([(⟨1, 9, 9, 0, (([(⟨#[65]⟩ : ByteArray), (⟨#[66]⟩ : ByteArray)] : List ByteArray))⟩ : S216)] : List (S216))))) = some (r1, r2, r3) := h
  clear h
  obtain ⟨y102, hy102⟩ : ∃ y_ : List ByteArray, y_ = (([(⟨#[65]⟩ : ByteArray), (⟨#[66]⟩ : ByteArray)] : List ByteArray)) := ⟨_, rfl⟩
  replace H : (some (3, 0, (([(⟨1, 9, 9, 0, y102⟩ : S216)] : List (S216))))) = some (r1, r2, r3) := by first | (rw [hy102]; with_reducible exact H) | (have H2_ := (Option.bind_some _ _).symm.trans H; rw [hy102]; with_reducible exact H2_) | (have H2_ := (Option.bind_some _ _).symm.trans H; with_reducible exact H2_) | with_reducible exact H | (rw [hy102]; exact H) | exact H
  have Ny102 := zA hy102
  clear hy102
  obtain ⟨y105, hy105⟩ : ∃ y_ : List (S216), y_ = (([(⟨1, 9, 9, 0, y102⟩ : S216)] : List (S216))) := ⟨_, rfl⟩
  replace H : (some (3, 0, y105)) = some (r1, r2, r3) := by first | (rw [hy105]; with_reducible exact H) | (have H2_ := (Option.bind_some _ _).symm.trans H; rw [hy105]; with_reducible exact H2_) | (have H2_ := (Option.bind_some _ _).symm.trans H; with_reducible exact H2_) | with_reducible exact H | (rw [hy105]; exact H) | exact H
  have Ny105 := zA hy105
  clear hy105
  simp only [zNq, zOq] at H
  obtain ⟨rfl, rfl, rfl⟩ := H
  go_enter Try.func139, Try.ntmps139
  go_wp2_with (first | ((with_reducible refine gate_dst (N := 0) rfl ?_); refine box_event qr (N := 0) qr (cs := #[.int .i64 0, .int .i64 0, .slice none 0 0]) (t := 73) qg ?_; intro gb101 hg w1 hbox hb; have n0_ := zA (zV qB hb); have n1_ := zA (hbox); have n2_ := zA ((qS : w.heap.size ≤ gb101)); have n3_ := zA ((qS : w.heap.size ≤ gb101)); clear HB; have HB := n0_; have BK101 := n1_; have GW101 := n2_; have GE101 := n3_; clear n0_ n1_ n2_ n3_ hb hbox hg) | ((with_reducible refine gate_dst (N := 1) rfl ?_); refine Kd.R_lit Kd.string _ 9 ?hg (N := 1) ?hd (xs := ([(⟨#[65]⟩ : ByteArray), (⟨#[66]⟩ : ByteArray)] : List ByteArray)) (inner := [.string (⟨#[65]⟩ : ByteArray), .string (⟨#[66]⟩ : ByteArray)]) (ok := fun _ => True) (okp := fun _ => True) ?hr ?hp (fun _ hk => hk) trivial (Below.refl _ _) (Nat.le_refl _) (by simp) ?_; (case hd => rfl); (case hg => rfl); (case hr => first | (go_simp; done) | (go_simp; rfl)); (case hp => exact (Reps.one (show Kd.M Kd.string _ _ _ (⟨#[65]⟩ : ByteArray) [.string (⟨#[65]⟩ : ByteArray)] from rfl) (Reps.one (show Kd.M Kd.string _ _ _ (⟨#[66]⟩ : ByteArray) [.string (⟨#[66]⟩ : ByteArray)] from rfl) (Reps.none _ _)))); intro v103 w2 ho3 hb hg_ hnew_; clear hg_ hnew_; (first | rw [← Ny102.out] at ho3 | (simp only [Int.reduceToNat] at ho3; rw [← Ny102.out] at ho3)); have n0_ := zA (Kd.R_lower (Kd.R_newM (M := fun k_ => (w.heap.size ≤ k_)) ho3 (zW qB) (fun k_ h_ => h_)) (zW qB)); have n1_ := zA (qX BK101.out hb); have n2_ := zA (zV qB hb); clear BK101 HB; have HO104 := n0_; have BK101 := n1_; have HB := n2_; clear n0_ n1_ n2_ hb ho3; obtain ⟨Ao4, co4, eo4⟩ := Kd.R_slice HO104.out; subst eo4) | ((with_reducible refine gate_dst (N := 3) rfl ?_); refine Kd.N_lit k216 _ 216 ?hg (N' := 3) ?hd (xs := ([(⟨1, 9, 9, 0, y102⟩ : S216)] : List (S216))) (inner := [.int .i64 1, .int .i64 9, .int .i64 9, .int .i64 0, .slice Ao4 y102.length co4]) (ok := (fun k_ => (w.heap.size ≤ k_) ∧ k_ ≠ gb101)) (okp := (fun k_ => (w.heap.size ≤ k_) ∧ k_ ≠ gb101)) ?hr ?hp (fun _ hk => hk) ((show ∀ k_, w2.heap.size ≤ k_ → (fun k_ => (w.heap.size ≤ k_) ∧ k_ ≠ gb101) k_ from fun k_ hk => ⟨(Nat.le_trans (zW qB) hk), Kd.freshB (g := gb101) (o := .cells #[.int .i64 0, .int .i64 0, .slice none 0 0] 73 (0, 0)) (qW BK101.out) k_ hk⟩) _ (Nat.le_refl _)) (Below.refl _ _) (Nat.le_refl _) (by simp) ?_; (case hd => rfl); (case hg => rfl); (case hr => first | (go_simp; done) | (go_simp; rfl)); (case hp => exact (Reps.c5 (show Kd.FK k216 _ _ (⟨1, 9, 9, 0, y102⟩ : S216) [.int .i64 1, .int .i64 9, .int .i64 9, .int .i64 0, .slice Ao4 y102.length co4] from (k216_mkF _ _ (⟨1, 9, 9, 0, y102⟩ : S216) (Kd.R_reads' (Kd.R_mono (ok' := (fun k_ => (w.heap.size ≤ k_) ∧ k_ ≠ gb101)) (Kd.R_types (HO104.out) BK101.out (by decide)) (fun k_ hk => ⟨hk.1.1, hk.2⟩))).2.1 (Kd.R_F (Kd.R_mono (ok' := (fun k_ => (w.heap.size ≤ k_) ∧ k_ ≠ gb101)) (Kd.R_types (HO104.out) BK101.out (by decide)) (fun k_ hk => ⟨hk.1.1, hk.2⟩))))) (Reps.none _ _))); intro v106 w5 ho6 hb hg_ hnew_; clear hg_ hnew_; (first | rw [← Ny105.out] at ho6 | (simp only [Int.reduceToNat] at ho6; rw [← Ny105.out] at ho6)); have n0_ := zA (Kd.N_lower ho6 (zW qB)); have n1_ := zA (qX BK101.out hb); have n2_ := zA (zV qB hb); clear BK101 HB HO104; have HO107 := n0_; have BK101 := n1_; have HB := n2_; clear n0_ n1_ n2_ hb ho6; obtain ⟨Ao7, co7, eo7⟩ := Kd.N_slice HO107.out; subst eo7; obtain ⟨_, _, _, _, _, _⟩ := qc3f BK101.out))
  refine bodyPost_ret (results_cell_row rfl _ _ gb101 73 #[.int .i64 3, .int .i64 0, .slice Ao7 y105.length co7] (0, 0) _ rfl (qV BK101.out) Try.underlying73 rfl (by kernel_rfl)) rfl ?_
  exact ⟨_, qE, by (with_reducible repeat (first | apply Kd.N_alloc | apply Kd.N_drewN | apply Kd.N_drew)); exact Kd.N_mono (Kd.N_far (p := ⟨gb101, 2, none⟩) (Kd.N_far (p := ⟨gb101, 1, none⟩) (Kd.N_far (p := ⟨gb101, 0, none⟩) (Kd.N_mono HO107.out (fun k_ hk => (⟨hk, hk.2⟩ : _ ∧ k_ ≠ gb101))) (fun _ hk => hk.2) (.int .i64 3)) (fun _ hk => hk.2) (.int .i64 0)) (fun _ hk => hk.2) (.slice Ao7 y105.length co7)) (fun _ hk => hk.1.1), qB⟩
def api_Want_140.f (l0 : List (S97)) : Option (List (S97)) := if l0.length < 5864062014805 then some l0 else none
set_option maxHeartbeats 1000000 in
theorem api_Want_140.calls (A0 : Option Addr) (c0 : Nat) (l0 : List (S97)) (r : List (S97)) (w : World) (hr0 : Kd.C k97 w A0 l0.length l0) (hc0 : l0.length ≤ c0) (h : api_Want_140.f l0 = some r) :
    Calls Try.prog 140 #[.slice A0 l0.length c0] w fun e w' => ∃ v0_ : Value, e = .returned (v0_) ∧ Kd.R k97 97 w' w.heap.size (fun _ => True) v0_ r ∧ Below w.heap.size w w' := by
  unfold api_Want_140.f at h
  by_cases h3 : l0.length < 5864062014805
  · rw [if_pos h3] at h
    simp only [zNq] at h; subst h; have hinf := info97; have hn := fun (W : World) => Lib.run_eql_slice_nil (P := Try.prog) W 68 97 A0 l0.length c0 0 0 Try.underlying68
    have HR0 := zA hr0; have HC0 := zA hc0; have H3 := zA h3; have HI := zA hinf; clear hr0 hc0 h3 hinf; cases A0 with
    | none =>
      have h0 : l0 = [] := by
        rcases Nat.eq_zero_or_pos l0.length with h0 | h0
        · exact List.eq_nil_of_length_eq_zero h0
        obtain ⟨ad, h, _⟩ := HR0.out.2.2 h0; cases h
      have H0 := zA h0; clear h0; go_enter Try.func140, Try.ntmps140; go_wp2; go_ret; exact ⟨_, rfl, by rw [H0.out]; exact Kd.R_nil _ _ _ _ _, by first | exact Below.refl _ _ | exact zB (Below.refl _ _) _⟩
    | some ad =>
      go_enter Try.func140, Try.ntmps140; go_wp2_with (first
        | (at_builtin; refine Kd.R_append_rows k97 (Rr := (k97).K w) (w0 := w) w.heap.size rfl (.tmp 5) (.tmp 6) 68 97 _ _ rfl Try.underlying68 HI.out rfl (by decide) (by decide) (.slice (some ⟨w.heap.size, 0, none⟩) 0 0) [] l0 (some ad) l0.length c0 (fun _ => True) (fun k => some k ≠ some w.heap.size) rfl rfl ?d0 ?d1 ?d2 ?d5 (fun _ _ => trivial) ?d6 ?d7 ?d3 ?d4; (case d0 => exact R_empty_lit k97 97 w); (case d1 => exact ReadsRow.imp_ HR0.out (zD (Below.refl _ _) _) (fun _ _ h => h)); (case d2 => exact fun x cs h => flat_k97 _ _ _ _ _ ((k97).K_below (zD (Below.refl _ _) _) h)); (case d5 => exact fun k hk => ⟨trivial, hk⟩); (case d6 => exact zD (Below.refl _ _) _); (case d7 => simp); (case d3 => simp only [List.length_nil]; have := H3.out; omega); intro v2 w2 ho2 hb2 hg2 ha2; have HO2 := zA ho2; have HB2 := zA hb2; clear ho2 hb2 hg2 ha2))
      go_ret; exact ⟨v2, by first | rfl | (simp; rfl), by simpa using HO2.out, HB2.out⟩
  rw [if_neg h3] at h; cases h
def rma_id.f (a0 : Int) : Option (Bool) := if a0 ≥ 1 then (some (decide (a0 ≤ 999999))) else (some false)
set_option maxHeartbeats 8000000 in
set_option maxRecDepth 100000 in
theorem rma_id.calls (a0 : Int) (r : Bool) (w : World) (h : rma_id.f a0 = some r) :
    Calls Try.prog 141 #[.int .i64 a0] w fun e w' => e = .returned (.bool r) ∧ Drawn0 w w' := by
  have H : (if a0 ≥ 1 then (some (decide (a0 ≤ 999999))) else (some false)) = some r := h
  clear h
  by_cases c2 : a0 ≥ 1
  · rw [if_pos c2] at H
    have c2b0 : decide (1 ≤ a0) = true := zFq c2; clear c2; obtain rfl := zKq H; go_enter Try.func141, Try.ntmps141; go_wp2; go_ret; exact ⟨by first | rfl | (simp; done) | (simp [*]; done), by repeat (first | exact Drawn0.refl _ | apply Drawn0.step)⟩
  rw [if_neg c2] at H
  have c2b0 : decide (1 ≤ a0) = false := zGq c2
  clear c2
  obtain rfl := zKq H
  go_enter Try.func141, Try.ntmps141
  go_wp2
  go_ret
  exact ⟨by first | rfl | (simp; done) | (simp [*]; done), by repeat (first | exact Drawn0.refl _ | apply Drawn0.step)⟩
def policy_span_has.f (a0_0 : Int) (a0_1 : Int) (a1 : Int) : Option (Bool) := if a1 ≥ a0_0 then (some (decide (a1 ≤ a0_1))) else (some false)
set_option maxHeartbeats 8000000 in
set_option maxRecDepth 100000 in
theorem policy_span_has.calls (a0_0 : Int) (a0_1 : Int) (a1 : Int) (r : Bool) (w : World) (h : policy_span_has.f a0_0 a0_1 a1 = some r) :
    Calls Try.prog 218 #[.agg #[.int .i64 a0_0, .int .i64 a0_1], .int .i64 a1] w fun e w' => e = .returned (.bool r) ∧ Below w.heap.size w w' := by
  have hu303 := Try.underlying303
  have HB := zA (Below.refl w.heap.size w)
  have H : (if a1 ≥ a0_0 then (some (decide (a1 ≤ a0_1))) else (some false)) = some r := h
  clear h
  by_cases c3 : a1 ≥ a0_0
  · rw [if_pos c3] at H
    have c3b0 : decide (a0_0 ≤ a1) = true := zFq c3; clear c3; obtain rfl := zKq H; go_enter Try.func218, Try.ntmps218; go_wp2_with (first | ((with_reducible refine gate_dst (N := 2) rfl ?_); refine box_event qr (N := 2) qr (cs := #[.int .i64 a0_0, .int .i64 a0_1]) (t := 303) qg ?_; intro gb101 hg w4 hbox hb; have n0_ := zA (zV qB hb); have n1_ := zA (hbox); have n2_ := zA ((qS : w.heap.size ≤ gb101)); have n3_ := zA ((qS : w.heap.size ≤ gb101)); clear HB; have HB := n0_; have BK101 := n1_; have GW101 := n2_; have GE101 := n3_; clear n0_ n1_ n2_ n3_ hb hbox hg; obtain ⟨_, _, _, _⟩ := qc2f BK101.out)); go_ret; exact ⟨qE, qB⟩
  rw [if_neg c3] at H
  have c3b0 : decide (a0_0 ≤ a1) = false := zGq c3
  clear c3
  obtain rfl := zKq H
  go_enter Try.func218, Try.ntmps218
  go_wp2_with (first | ((with_reducible refine gate_dst (N := 2) rfl ?_); refine box_event qr (N := 2) qr (cs := #[.int .i64 a0_0, .int .i64 a0_1]) (t := 303) qg ?_; intro gb101 hg w6 hbox hb; have n0_ := zA (zV qB hb); have n1_ := zA (hbox); have n2_ := zA ((qS : w.heap.size ≤ gb101)); have n3_ := zA ((qS : w.heap.size ≤ gb101)); clear HB; have HB := n0_; have BK101 := n1_; have GW101 := n2_; have GE101 := n3_; clear n0_ n1_ n2_ n3_ hb hbox hg; obtain ⟨_, _, _, _⟩ := qc2f BK101.out))
  go_ret
  exact ⟨qE, qB⟩
def policy_Time.f (a0 : Int) : Option (Bool) := (policy_span_has.f 0 1000000 a0).bind fun t101 => (some t101)
set_option maxHeartbeats 8000000 in
set_option maxRecDepth 100000 in
theorem policy_Time.calls (a0 : Int) (r : Bool) (w : World) (h : policy_Time.f a0 = some r) :
    Calls Try.prog 142 #[.int .i64 a0] w fun e w' => e = .returned (.bool r) ∧ Below w.heap.size w w' := by
  have hu303 := Try.underlying303
  have HB := zA (Below.refl w.heap.size w)
  have H : ((policy_span_has.f 0 1000000 a0).bind fun t101 => (some t101)) = some r := h
  clear h
  replace H := Option.bind_eq_some_iff.mp H
  obtain ⟨t101, A20, H⟩ := H
  replace H : (some t101) = some r := H
  have A2 := zA A20
  clear A20
  obtain rfl := zKq H
  go_enter Try.func142, Try.ntmps142
  go_wp2_with (first | ((with_reducible refine zJq (f := 218) rfl ?_); refine goesL_ (some 5) rfl rfl Try.func218 (by kernel_rfl) rfl #[.agg #[.int .i64 0, .int .i64 1000000], .int .i64 a0] rfl (by (try simp only [zR, zS, zT]); first | done | rfl | (simp only [zP, zQ]; rfl)) ?_; (with_reducible refine (policy_span_has.calls 0 1000000 a0 t101 _ A2.out).mono ?_); rintro e w3 ⟨rfl, hb⟩; refine ⟨_, rfl, ?_⟩; have n0_ := zA (zV qB hb); clear HB; have HB := n0_; clear n0_; (try clear hb); (try clear hb2); (try clear hk); (try clear hi)))
  go_ret
  exact ⟨qE, qB⟩
def rma_wanted.l0 : Nat → List (S97) → Int → List (S97) → Int → Int → Option (Bool)
  | 0, _, _, _, _, _ => none
  | k + 1, x0, x3, x6, x7, x8 => if x8 < x7 then (if 0 ≤ x8 then (if x8 < (x6.length : Int) then (if ((rd_T97 x6 x8).f0) ≤ x3 then (some false) else (if ((rd_T97 x6 x8).f0) ≥ 8 then (some false) else (if ((rd_T97 x6 x8).f1) < 1 then (some false) else (if ((rd_T97 x6 x8).f1) > 20 then (some false) else (if ((rd_T97 x6 x8).f2) < 0 then (some false) else (if ((rd_T97 x6 x8).f2) > ((rd_T97 x6 x8).f1) then (some false) else (rma_wanted.l0 k x0 ((rd_T97 x6 x8).f0) x6 x7 (wrap64 (x8 + 1))))))))) else (none)) else (none)) else (some (decide ((x0.length : Int) > 0)))
def rma_wanted.f (k : Nat) (l0 : List (S97)) : Option (Bool) := rma_wanted.l0 k l0 (-1) l0 (l0.length : Int) 0
theorem rma_wanted.mono_l : ∀ k, (∀ y0 y1 y2 y3 y4, LeO (rma_wanted.l0 k y0 y1 y2 y3 y4) (rma_wanted.l0 (k + 1) y0 y1 y2 y3 y4))
  | 0 => fun _ _ _ _ _ r h => by simp [rma_wanted.l0] at h
  | k + 1 => by
    have ih0 := rma_wanted.mono_l k
    intro y0 y1 y2 y3 y4
    unfold rma_wanted.l0
    repeat' first
    | (with_reducible exact ih0 _ _ _ _ _)
    | (with_reducible exact LeO.refl _)
    | (with_reducible exact LeO.none _)
    | (with_reducible refine LeO.ite ?_ ?_)
    | (with_reducible refine LeO.bind ?_ (fun _ => ?_))
    | exact ih0 _ _ _ _ _
    | exact LeO.none _
    | refine LeO.ite ?_ ?_
    | refine LeO.bind ?_ (fun _ => ?_)
theorem rma_wanted.mono : ∀ a0 k, LeO (rma_wanted.f k a0) (rma_wanted.f (k + 1) a0) := by
  intro a0 k
  have ih0 := rma_wanted.mono_l k
  unfold rma_wanted.f
  repeat' first
      | (with_reducible exact ih0 _ _ _ _ _)
      | (with_reducible exact LeO.refl _)
      | (with_reducible exact LeO.none _)
      | (with_reducible refine LeO.ite ?_ ?_)
      | (with_reducible refine LeO.bind ?_ (fun _ => ?_))
      | exact ih0 _ _ _ _ _
      | exact LeO.none _
      | refine LeO.ite ?_ ?_
      | refine LeO.bind ?_ (fun _ => ?_)
set_option maxHeartbeats 8000000 in
set_option maxRecDepth 100000 in
theorem rma_wanted.calls (k : Nat) (A0 : Option Addr) (c0 : Nat) (l0 : List (S97)) (r : Bool) (w : World) (hr0 : Kd.C k97 w A0 l0.length l0) (hc0 : l0.length ≤ c0) (h : rma_wanted.f k l0 = some r) :
    Calls Try.prog 143 #[.slice A0 l0.length c0] w fun e w' => e = .returned (.bool r) ∧ Below w.heap.size w w' := by
  have hu97 := Try.underlying97
  have HR0 := zA hr0
  have HC0 := zA hc0
  clear hr0 hc0
  have HB := zA (Below.refl w.heap.size w)
  have H : (rma_wanted.l0 k l0 (-1) l0 (l0.length : Int) 0) = some r := h
  clear h
  have H' := zA H
  clear H
  go_enter Try.func143, Try.ntmps143
  go_wp2
  go_loopg [3, 8] k (fun kq v3 v8 w' => ∃ (x3_1 : Int) (x8_1 : Int), v3 = .int .i64 x3_1 ∧ v8 = .int .i64 x8_1 ∧ Aside0 (rma_wanted.l0 kq l0 x3_1 l0 (l0.length : Int) x8_1 = some r) ∧ Aside0 (kq ≤ k) ∧ Aside0 (Below w.heap.size w w'))
  case atStart => exact ⟨((-1)), (0), (by first | rfl | (simp; done) | (simp [*]; done)), (by first | rfl | (simp; done) | (simp [*]; done)), H', ⟨Nat.le_refl _⟩, ⟨qB⟩⟩
  case round =>
    clear H'; try clear c1
    obtain ⟨x3_1, x8_1, rfl, rfl, HA, HK1, HB⟩ := hrel; cases gk with
    | zero => exact absurd HA.out (by simp [rma_wanted.l0])
    | succ k1 =>
      have H := HA.out; clear HA; simp only [rma_wanted.l0] at H; by_cases c2 : x8_1 < (l0.length : Int)
      · rw [if_pos c2] at H
        have c2b0 : decide (x8_1 < (l0.length : Int)) = true := zFq c2; clear c2; by_cases c3 : 0 ≤ x8_1
        · rw [if_pos c3] at H
          have c3b0 : decide (0 ≤ x8_1) = true := zFq c3; clear c3; by_cases c4 : x8_1 < (l0.length : Int)
          · rw [if_pos c4] at H
            have c4b0 : decide (x8_1 < (l0.length : Int)) = true := zFq c4; clear c4; by_cases c5 : ((rd_T97 l0 x8_1).f0) ≤ x3_1
            · rw [if_pos c5] at H
              have c5b0 : decide (((rd_T97 l0 x8_1).f0) ≤ x3_1) = true := zFq c5; clear c5; obtain rfl := zKq H; have p101 : 0 ≤ (x8_1 : Int) := of_decide_eq_true qA; have q101 : x8_1 < (l0.length : Int) := of_decide_eq_true qA; obtain ⟨ad101, e101, hx101_0, hx101_1, hx101_2⟩ := at_T97 HR0.out x8_1 p101 q101; cases e101
              replace hx101_0 := (HB.out.cell (zCq w _ hx101_0)).trans hx101_0; replace hx101_1 := (HB.out.cell (zCq w _ hx101_1)).trans hx101_1; replace hx101_2 := (HB.out.cell (zCq w _ hx101_2)).trans hx101_2; replace p101 := eq_true p101; replace q101 := eq_true q101; go_wp2_with (first | ((with_reducible refine gate_dst (N := 5) rfl ?_); refine box_event qr (N := 5) qr (cs := #[.int .i64 0, .int .i64 0, .int .i64 0]) (t := 97) qg ?_; intro gb102 hg w6 hbox hb; have n0_ := zA (zV qB hb); have n1_ := zA (hbox); have n2_ := zA ((qS : w.heap.size ≤ gb102)); have n3_ := zA ((qS : w.heap.size ≤ gb102)); clear HB; have HB := n0_; have BK102 := n1_; have GW102 := n2_; have GE102 := n3_; clear n0_ n1_ n2_ n3_ hb hbox hg; obtain ⟨_, _, _, _, _, _⟩ := qc3f BK102.out)); go_ret; exact ⟨qE, qB⟩
            rw [if_neg c5] at H; have c5b0 : decide (((rd_T97 l0 x8_1).f0) ≤ x3_1) = false := zGq c5; clear c5; by_cases c8 : ((rd_T97 l0 x8_1).f0) ≥ 8
            · rw [if_pos c8] at H
              have c8b0 : decide (8 ≤ ((rd_T97 l0 x8_1).f0)) = true := zFq c8; clear c8; obtain rfl := zKq H; have p101 : 0 ≤ (x8_1 : Int) := of_decide_eq_true qA; have q101 : x8_1 < (l0.length : Int) := of_decide_eq_true qA; obtain ⟨ad101, e101, hx101_0, hx101_1, hx101_2⟩ := at_T97 HR0.out x8_1 p101 q101; cases e101
              replace hx101_0 := (HB.out.cell (zCq w _ hx101_0)).trans hx101_0; replace hx101_1 := (HB.out.cell (zCq w _ hx101_1)).trans hx101_1; replace hx101_2 := (HB.out.cell (zCq w _ hx101_2)).trans hx101_2; replace p101 := eq_true p101; replace q101 := eq_true q101; go_wp2_with (first | ((with_reducible refine gate_dst (N := 5) rfl ?_); refine box_event qr (N := 5) qr (cs := #[.int .i64 0, .int .i64 0, .int .i64 0]) (t := 97) qg ?_; intro gb102 hg w9 hbox hb; have n0_ := zA (zV qB hb); have n1_ := zA (hbox); have n2_ := zA ((qS : w.heap.size ≤ gb102)); have n3_ := zA ((qS : w.heap.size ≤ gb102)); clear HB; have HB := n0_; have BK102 := n1_; have GW102 := n2_; have GE102 := n3_; clear n0_ n1_ n2_ n3_ hb hbox hg; obtain ⟨_, _, _, _, _, _⟩ := qc3f BK102.out)); go_ret; exact ⟨qE, qB⟩
            rw [if_neg c8] at H; have c8b0 : decide (8 ≤ ((rd_T97 l0 x8_1).f0)) = false := zGq c8; clear c8; by_cases c11 : ((rd_T97 l0 x8_1).f1) < 1
            · rw [if_pos c11] at H
              have c11b0 : decide (((rd_T97 l0 x8_1).f1) < 1) = true := zFq c11; clear c11; obtain rfl := zKq H; have p101 : 0 ≤ (x8_1 : Int) := of_decide_eq_true qA; have q101 : x8_1 < (l0.length : Int) := of_decide_eq_true qA; obtain ⟨ad101, e101, hx101_0, hx101_1, hx101_2⟩ := at_T97 HR0.out x8_1 p101 q101; cases e101
              replace hx101_0 := (HB.out.cell (zCq w _ hx101_0)).trans hx101_0; replace hx101_1 := (HB.out.cell (zCq w _ hx101_1)).trans hx101_1; replace hx101_2 := (HB.out.cell (zCq w _ hx101_2)).trans hx101_2; replace p101 := eq_true p101; replace q101 := eq_true q101; go_wp2_with (first | ((with_reducible refine gate_dst (N := 5) rfl ?_); refine box_event qr (N := 5) qr (cs := #[.int .i64 0, .int .i64 0, .int .i64 0]) (t := 97) qg ?_; intro gb102 hg w12 hbox hb; have n0_ := zA (zV qB hb); have n1_ := zA (hbox); have n2_ := zA ((qS : w.heap.size ≤ gb102)); have n3_ := zA ((qS : w.heap.size ≤ gb102)); clear HB; have HB := n0_; have BK102 := n1_; have GW102 := n2_; have GE102 := n3_; clear n0_ n1_ n2_ n3_ hb hbox hg; obtain ⟨_, _, _, _, _, _⟩ := qc3f BK102.out)); go_ret; exact ⟨qE, qB⟩
            rw [if_neg c11] at H; have c11b0 : decide (((rd_T97 l0 x8_1).f1) < 1) = false := zGq c11; clear c11; by_cases c14 : ((rd_T97 l0 x8_1).f1) > 20
            · rw [if_pos c14] at H
              have c14b0 : decide (20 < ((rd_T97 l0 x8_1).f1)) = true := zFq c14; clear c14; obtain rfl := zKq H; have p101 : 0 ≤ (x8_1 : Int) := of_decide_eq_true qA; have q101 : x8_1 < (l0.length : Int) := of_decide_eq_true qA; obtain ⟨ad101, e101, hx101_0, hx101_1, hx101_2⟩ := at_T97 HR0.out x8_1 p101 q101; cases e101
              replace hx101_0 := (HB.out.cell (zCq w _ hx101_0)).trans hx101_0; replace hx101_1 := (HB.out.cell (zCq w _ hx101_1)).trans hx101_1; replace hx101_2 := (HB.out.cell (zCq w _ hx101_2)).trans hx101_2; replace p101 := eq_true p101; replace q101 := eq_true q101; go_wp2_with (first | ((with_reducible refine gate_dst (N := 5) rfl ?_); refine box_event qr (N := 5) qr (cs := #[.int .i64 0, .int .i64 0, .int .i64 0]) (t := 97) qg ?_; intro gb102 hg w15 hbox hb; have n0_ := zA (zV qB hb); have n1_ := zA (hbox); have n2_ := zA ((qS : w.heap.size ≤ gb102)); have n3_ := zA ((qS : w.heap.size ≤ gb102)); clear HB; have HB := n0_; have BK102 := n1_; have GW102 := n2_; have GE102 := n3_; clear n0_ n1_ n2_ n3_ hb hbox hg; obtain ⟨_, _, _, _, _, _⟩ := qc3f BK102.out)); go_ret; exact ⟨qE, qB⟩
            rw [if_neg c14] at H; have c14b0 : decide (20 < ((rd_T97 l0 x8_1).f1)) = false := zGq c14; clear c14; by_cases c17 : ((rd_T97 l0 x8_1).f2) < 0
            · rw [if_pos c17] at H
              have c17b0 : decide (((rd_T97 l0 x8_1).f2) < 0) = true := zFq c17; clear c17; obtain rfl := zKq H; have p101 : 0 ≤ (x8_1 : Int) := of_decide_eq_true qA; have q101 : x8_1 < (l0.length : Int) := of_decide_eq_true qA; obtain ⟨ad101, e101, hx101_0, hx101_1, hx101_2⟩ := at_T97 HR0.out x8_1 p101 q101; cases e101
              replace hx101_0 := (HB.out.cell (zCq w _ hx101_0)).trans hx101_0; replace hx101_1 := (HB.out.cell (zCq w _ hx101_1)).trans hx101_1; replace hx101_2 := (HB.out.cell (zCq w _ hx101_2)).trans hx101_2; replace p101 := eq_true p101; replace q101 := eq_true q101; go_wp2_with (first | ((with_reducible refine gate_dst (N := 5) rfl ?_); refine box_event qr (N := 5) qr (cs := #[.int .i64 0, .int .i64 0, .int .i64 0]) (t := 97) qg ?_; intro gb102 hg w18 hbox hb; have n0_ := zA (zV qB hb); have n1_ := zA (hbox); have n2_ := zA ((qS : w.heap.size ≤ gb102)); have n3_ := zA ((qS : w.heap.size ≤ gb102)); clear HB; have HB := n0_; have BK102 := n1_; have GW102 := n2_; have GE102 := n3_; clear n0_ n1_ n2_ n3_ hb hbox hg; obtain ⟨_, _, _, _, _, _⟩ := qc3f BK102.out)); go_ret; exact ⟨qE, qB⟩
            rw [if_neg c17] at H; have c17b0 : decide (((rd_T97 l0 x8_1).f2) < 0) = false := zGq c17; clear c17; by_cases c20 : ((rd_T97 l0 x8_1).f2) > ((rd_T97 l0 x8_1).f1)
            · rw [if_pos c20] at H
              have c20b0 : decide (((rd_T97 l0 x8_1).f1) < ((rd_T97 l0 x8_1).f2)) = true := zFq c20; clear c20; obtain rfl := zKq H; have p101 : 0 ≤ (x8_1 : Int) := of_decide_eq_true qA; have q101 : x8_1 < (l0.length : Int) := of_decide_eq_true qA; obtain ⟨ad101, e101, hx101_0, hx101_1, hx101_2⟩ := at_T97 HR0.out x8_1 p101 q101; cases e101
              replace hx101_0 := (HB.out.cell (zCq w _ hx101_0)).trans hx101_0; replace hx101_1 := (HB.out.cell (zCq w _ hx101_1)).trans hx101_1; replace hx101_2 := (HB.out.cell (zCq w _ hx101_2)).trans hx101_2; replace p101 := eq_true p101; replace q101 := eq_true q101; go_wp2_with (first | ((with_reducible refine gate_dst (N := 5) rfl ?_); refine box_event qr (N := 5) qr (cs := #[.int .i64 0, .int .i64 0, .int .i64 0]) (t := 97) qg ?_; intro gb102 hg w21 hbox hb; have n0_ := zA (zV qB hb); have n1_ := zA (hbox); have n2_ := zA ((qS : w.heap.size ≤ gb102)); have n3_ := zA ((qS : w.heap.size ≤ gb102)); clear HB; have HB := n0_; have BK102 := n1_; have GW102 := n2_; have GE102 := n3_; clear n0_ n1_ n2_ n3_ hb hbox hg; obtain ⟨_, _, _, _, _, _⟩ := qc3f BK102.out)); go_ret; exact ⟨qE, qB⟩
            rw [if_neg c20] at H; have c20b0 : decide (((rd_T97 l0 x8_1).f1) < ((rd_T97 l0 x8_1).f2)) = false := zGq c20; clear c20; have H' := zA H; clear H; have p101 : 0 ≤ (x8_1 : Int) := of_decide_eq_true qA; have q101 : x8_1 < (l0.length : Int) := of_decide_eq_true qA; obtain ⟨ad101, e101, hx101_0, hx101_1, hx101_2⟩ := at_T97 HR0.out x8_1 p101 q101; cases e101
            replace hx101_0 := (HB.out.cell (zCq w _ hx101_0)).trans hx101_0; replace hx101_1 := (HB.out.cell (zCq w _ hx101_1)).trans hx101_1; replace hx101_2 := (HB.out.cell (zCq w _ hx101_2)).trans hx101_2; replace p101 := eq_true p101; replace q101 := eq_true q101; go_wp2_with (first | ((with_reducible refine gate_dst (N := 5) rfl ?_); refine box_event qr (N := 5) qr (cs := #[.int .i64 0, .int .i64 0, .int .i64 0]) (t := 97) qg ?_; intro gb102 hg w23 hbox hb; have n0_ := zA (zV qB hb); have n1_ := zA (hbox); have n2_ := zA ((qS : w.heap.size ≤ gb102)); have n3_ := zA ((qS : w.heap.size ≤ gb102)); clear HB; have HB := n0_; have BK102 := n1_; have GW102 := n2_; have GE102 := n3_; clear n0_ n1_ n2_ n3_ hb hbox hg; obtain ⟨_, _, _, _, _, _⟩ := qc3f BK102.out)); go_roundg k1
            case measure => have := HK1.out; omega
            case rel => exact ⟨((rd_T97 l0 x8_1).f0), (wrap64 (x8_1 + 1)), (by first | rfl | (simp; done) | (simp [*]; done)), (by first | rfl | (simp; done) | (simp [*]; done)), H', ⟨by have := HK1.out; omega⟩, ⟨qB⟩⟩
          rw [if_neg c4] at H; exact absurd H (by simp)
        rw [if_neg c3] at H; exact absurd H (by simp)
      rw [if_neg c2] at H; have c2b0 : decide (x8_1 < (l0.length : Int)) = false := zGq c2; clear c2; obtain rfl := zKq H; go_wp2; go_ret; exact ⟨qE, qB⟩
def rma_waits.f (a0_0 : Int) (a0_1 : Int) (a0_2 : Int) : Option (Bool) := some (decide (a0_2 < a0_1))
set_option maxHeartbeats 8000000 in
set_option maxRecDepth 100000 in
theorem rma_waits.calls (a0_0 : Int) (a0_1 : Int) (a0_2 : Int) (r : Bool) (w : World) (h : rma_waits.f a0_0 a0_1 a0_2 = some r) :
    Calls Try.prog 145 #[.agg #[.int .i64 a0_0, .int .i64 a0_1, .int .i64 a0_2]] w fun e w' => e = .returned (.bool r) ∧ Below w.heap.size w w' := by
  have hu97 := Try.underlying97
  have HB := zA (Below.refl w.heap.size w)
  have H : (some (decide (a0_2 < a0_1))) = some r := h
  clear h
  obtain rfl := zKq H
  go_enter Try.func145, Try.ntmps145
  go_wp2_with (first | ((with_reducible refine gate_dst (N := 1) rfl ?_); refine box_event qr (N := 1) qr (cs := #[.int .i64 a0_0, .int .i64 a0_1, .int .i64 a0_2]) (t := 97) qg ?_; intro gb101 hg w2 hbox hb; have n0_ := zA (zV qB hb); have n1_ := zA (hbox); have n2_ := zA ((qS : w.heap.size ≤ gb101)); have n3_ := zA ((qS : w.heap.size ≤ gb101)); clear HB; have HB := n0_; have BK101 := n1_; have GW101 := n2_; have GE101 := n3_; clear n0_ n1_ n2_ n3_ hb hbox hg; obtain ⟨_, _, _, _, _, _⟩ := qc3f BK101.out))
  go_ret
  exact ⟨qE, qB⟩
def slices_IndexFunc_rma_waits.l0 : Nat → List (S97) → Int → Int → Option (Int)
  | 0, _, _, _ => none
  | k + 1, x0, x7, x8 => if x8 < x7 then (if 0 ≤ x8 then (if x8 < (x0.length : Int) then ((rma_waits.f ((rd_T97 x0 x8).f0) ((rd_T97 x0 x8).f1) ((rd_T97 x0 x8).f2)).bind fun t102 => (if t102 = true then (some x8) else (slices_IndexFunc_rma_waits.l0 k x0 x7 (wrap64 (x8 + 1))))) else (none)) else (none)) else (some (-1))
def slices_IndexFunc_rma_waits.f (k : Nat) (l0 : List (S97))  : Option (Int) := slices_IndexFunc_rma_waits.l0 k l0 (l0.length : Int) 0
theorem slices_IndexFunc_rma_waits.mono_l : ∀ k, (∀ y0 y1 y2, LeO (slices_IndexFunc_rma_waits.l0 k y0 y1 y2) (slices_IndexFunc_rma_waits.l0 (k + 1) y0 y1 y2))
  | 0 => fun _ _ _ r h => by simp [slices_IndexFunc_rma_waits.l0] at h
  | k + 1 => by
    have ih0 := slices_IndexFunc_rma_waits.mono_l k
    intro y0 y1 y2
    unfold slices_IndexFunc_rma_waits.l0
    repeat' first
    | (with_reducible exact ih0 _ _ _)
    | (with_reducible exact LeO.refl _)
    | (with_reducible exact LeO.none _)
    | (with_reducible refine LeO.ite ?_ ?_)
    | (with_reducible refine LeO.bind ?_ (fun _ => ?_))
    | exact ih0 _ _ _
    | exact LeO.none _
    | refine LeO.ite ?_ ?_
    | refine LeO.bind ?_ (fun _ => ?_)
theorem slices_IndexFunc_rma_waits.mono : ∀ a0 k, LeO (slices_IndexFunc_rma_waits.f k a0) (slices_IndexFunc_rma_waits.f (k + 1) a0) := by
  intro a0 k
  have ih0 := slices_IndexFunc_rma_waits.mono_l k
  unfold slices_IndexFunc_rma_waits.f
  repeat' first
      | (with_reducible exact ih0 _ _ _)
      | (with_reducible exact LeO.refl _)
      | (with_reducible exact LeO.none _)
      | (with_reducible refine LeO.ite ?_ ?_)
      | (with_reducible refine LeO.bind ?_ (fun _ => ?_))
      | exact ih0 _ _ _
      | exact LeO.none _
      | refine LeO.ite ?_ ?_
      | refine LeO.bind ?_ (fun _ => ?_)
set_option maxHeartbeats 8000000 in
set_option maxRecDepth 100000 in
theorem slices_IndexFunc_rma_waits.calls (k : Nat) (A0 : Option Addr) (c0 : Nat) (l0 : List (S97))  (r : Int) (w : World) (hr0 : Kd.C k97 w A0 l0.length l0) (hc0 : l0.length ≤ c0) (h : slices_IndexFunc_rma_waits.f k l0 = some r) :
    Calls Try.prog 219 #[.slice A0 l0.length c0, .func (.func 145) #[] #[]] w fun e w' => e = .returned (.int .i64 r) ∧ Below w.heap.size w w' := by
  have hu97 := Try.underlying97
  have HR0 := zA hr0
  have HC0 := zA hc0
  clear hr0 hc0
  have HB := zA (Below.refl w.heap.size w)
  have H : (slices_IndexFunc_rma_waits.l0 k l0 (l0.length : Int) 0) = some r := h
  clear h
  have H' := zA H
  clear H
  go_enter Try.func219, Try.ntmps219
  go_wp2
  go_loopg [8] k (fun kq v8 w' => ∃ (x8_1 : Int), v8 = .int .i64 x8_1 ∧ Aside0 (slices_IndexFunc_rma_waits.l0 kq l0 (l0.length : Int) x8_1 = some r) ∧ Aside0 (kq ≤ k) ∧ Aside0 (Below w.heap.size w w'))
  case atStart => exact ⟨(0), (by first | rfl | (simp; done) | (simp [*]; done)), H', ⟨Nat.le_refl _⟩, ⟨qB⟩⟩
  case round =>
    clear H'; try clear p2
    obtain ⟨x8_1, rfl, HA, HK1, HB⟩ := hrel; cases gk with
    | zero => exact absurd HA.out (by simp [slices_IndexFunc_rma_waits.l0])
    | succ k1 =>
      have H := HA.out; clear HA; simp only [slices_IndexFunc_rma_waits.l0] at H; by_cases c3 : x8_1 < (l0.length : Int)
      · rw [if_pos c3] at H
        have c3b0 : decide (x8_1 < (l0.length : Int)) = true := zFq c3; clear c3; by_cases c4 : 0 ≤ x8_1
        · rw [if_pos c4] at H
          have c4b0 : decide (0 ≤ x8_1) = true := zFq c4; clear c4; by_cases c5 : x8_1 < (l0.length : Int)
          · rw [if_pos c5] at H
            have c5b0 : decide (x8_1 < (l0.length : Int)) = true := zFq c5; clear c5; replace H := Option.bind_eq_some_iff.mp H; obtain ⟨t102, A60, H⟩ := H; replace H : (if t102 = true then (some x8_1) else (slices_IndexFunc_rma_waits.l0 k1 l0 (l0.length : Int) (wrap64 (x8_1 + 1)))) = some r := H; have A6 := zA A60; clear A60; by_cases c7 : t102 = true
            · subst c7
              have H1 : (some x8_1) = some r := by first | (rw [if_pos rfl] at H; exact H) | rfl
              clear H; have H := H1; clear H1; obtain rfl := zKq H; have p101 : 0 ≤ (x8_1 : Int) := of_decide_eq_true qA; have q101 : x8_1 < (l0.length : Int) := of_decide_eq_true qA; obtain ⟨ad101, e101, hx101_0, hx101_1, hx101_2⟩ := at_T97 HR0.out x8_1 p101 q101; cases e101
              replace hx101_0 := (HB.out.cell (zCq w _ hx101_0)).trans hx101_0; replace hx101_1 := (HB.out.cell (zCq w _ hx101_1)).trans hx101_1; replace hx101_2 := (HB.out.cell (zCq w _ hx101_2)).trans hx101_2; replace p101 := eq_true p101; replace q101 := eq_true q101; go_wp2_with (first | (go_at_call 145; (with_reducible refine (rma_waits.calls ((rd_T97 l0 x8_1).f0) ((rd_T97 l0 x8_1).f1) ((rd_T97 l0 x8_1).f2) true _ A6.out).mono ?_); rintro e w8 ⟨rfl, hb⟩; have n0_ := zA (zV qB hb); clear HB; have HB := n0_; clear n0_; (try clear hb); (try clear hb2); (try clear hk); (try clear hi))); go_ret; exact ⟨qE, qB⟩
            replace c7 := Bool.eq_false_iff.mpr c7; subst c7; have H1 : (slices_IndexFunc_rma_waits.l0 k1 l0 (l0.length : Int) (wrap64 (x8_1 + 1))) = some r := by first | (rw [if_neg (show ¬ (false = true) by decide)] at H; exact H) | rfl
            clear H; have H := H1; clear H1; have H' := zA H; clear H; have p101 : 0 ≤ (x8_1 : Int) := of_decide_eq_true qA; have q101 : x8_1 < (l0.length : Int) := of_decide_eq_true qA; obtain ⟨ad101, e101, hx101_0, hx101_1, hx101_2⟩ := at_T97 HR0.out x8_1 p101 q101; cases e101
            replace hx101_0 := (HB.out.cell (zCq w _ hx101_0)).trans hx101_0; replace hx101_1 := (HB.out.cell (zCq w _ hx101_1)).trans hx101_1; replace hx101_2 := (HB.out.cell (zCq w _ hx101_2)).trans hx101_2; replace p101 := eq_true p101; replace q101 := eq_true q101; go_wp2_with (first | (go_at_call 145; (with_reducible refine (rma_waits.calls ((rd_T97 l0 x8_1).f0) ((rd_T97 l0 x8_1).f1) ((rd_T97 l0 x8_1).f2) false _ A6.out).mono ?_); rintro e w9 ⟨rfl, hb⟩; have n0_ := zA (zV qB hb); clear HB; have HB := n0_; clear n0_; (try clear hb); (try clear hb2); (try clear hk); (try clear hi))); go_roundg k1
            case measure => have := HK1.out; omega
            case rel => exact ⟨(wrap64 (x8_1 + 1)), (by first | rfl | (simp; done) | (simp [*]; done)), H', ⟨by have := HK1.out; omega⟩, ⟨qB⟩⟩
          rw [if_neg c5] at H; exact absurd H (by simp)
        rw [if_neg c4] at H; exact absurd H (by simp)
      rw [if_neg c3] at H; have c3b0 : decide (x8_1 < (l0.length : Int)) = false := zGq c3; clear c3; obtain rfl := zKq H; go_wp2; go_ret; exact ⟨qE, qB⟩
def slices_ContainsFunc_rma_waits.f (k : Nat) (l0 : List (S97))  : Option (Bool) := (slices_IndexFunc_rma_waits.f k l0).bind fun t101 => (some (decide (t101 ≥ 0)))
theorem slices_ContainsFunc_rma_waits.mono : ∀ a0 k, LeO (slices_ContainsFunc_rma_waits.f k a0) (slices_ContainsFunc_rma_waits.f (k + 1) a0) := by
  intro a0 k
  unfold slices_ContainsFunc_rma_waits.f
  repeat' first
      | (with_reducible exact slices_IndexFunc_rma_waits.mono _ _)
      | (with_reducible exact LeO.refl _)
      | (with_reducible exact LeO.none _)
      | (with_reducible refine LeO.ite ?_ ?_)
      | (with_reducible refine LeO.bind ?_ (fun _ => ?_))
      | exact slices_IndexFunc_rma_waits.mono _ _
      | exact LeO.none _
      | refine LeO.ite ?_ ?_
      | refine LeO.bind ?_ (fun _ => ?_)
set_option maxHeartbeats 8000000 in
set_option maxRecDepth 100000 in
theorem slices_ContainsFunc_rma_waits.calls (k : Nat) (A0 : Option Addr) (c0 : Nat) (l0 : List (S97))  (r : Bool) (w : World) (hr0 : Kd.C k97 w A0 l0.length l0) (hc0 : l0.length ≤ c0) (h : slices_ContainsFunc_rma_waits.f k l0 = some r) :
    Calls Try.prog 144 #[.slice A0 l0.length c0, .func (.func 145) #[] #[]] w fun e w' => e = .returned (.bool r) ∧ Below w.heap.size w w' := by
  have HR0 := zA hr0
  have HC0 := zA hc0
  clear hr0 hc0
  have HB := zA (Below.refl w.heap.size w)
  have H : ((slices_IndexFunc_rma_waits.f k l0).bind fun t101 => (some (decide (t101 ≥ 0)))) = some r := h
  clear h
  replace H := Option.bind_eq_some_iff.mp H
  obtain ⟨t101, A30, H⟩ := H
  replace H : (some (decide (t101 ≥ 0))) = some r := H
  have A3 := zA A30
  clear A30
  obtain rfl := zKq H
  go_enter Try.func144, Try.ntmps144
  go_wp2_with (first | (go_at_call 219; (with_reducible refine (slices_IndexFunc_rma_waits.calls k _ _ l0  t101 _ ?side1 ?side2 A3.out).mono ?_); (case side1 => repeat (first | exact HR0.out | (with_reducible refine Kd.C_alloc ?_ _) | (with_reducible refine Kd.C_drewN ?_ _) | (with_reducible refine Kd.C_drew ?_))); (case side2 => exact HC0.out); rintro e w4 ⟨rfl, hb⟩; have n0_ := zA (zV qB hb); clear HB; have HB := n0_; clear n0_; (try clear hb); (try clear hb2); (try clear hk); (try clear hi)))
  go_ret
  exact ⟨qE, qB⟩
mutual
def rma_Check.j0 : Nat → Bool → Int → Int → Int → Int → List (S97) → Option (Int)
  | 0, _, _, _, _, _, _ => none
  | k + 1, x25, x102000, x102001, x102002, x102003, x102004 => if x25 = true then (some 40) else ((slices_ContainsFunc_rma_waits.f k x102004).bind fun t106 => (if x102003 = 1 then (rma_Check.j1 k t106 t106 x102000 x102001 x102002 x102003 x102004) else (rma_Check.j1 k t106 false x102000 x102001 x102002 x102003 x102004)))
def rma_Check.j1 : Nat → Bool → Bool → Int → Int → Int → Int → List (S97) → Option (Int)
  | 0, _, _, _, _, _, _, _ => none
  | k + 1, x3, x29, x102000, x102001, x102002, x102003, x102004 => if x29 = true then (some 0) else (if x102003 = 2 then (rma_Check.j2 k (!x3) x102000 x102001 x102002 x102003 x102004) else (rma_Check.j2 k false x102000 x102001 x102002 x102003 x102004))
def rma_Check.j2 : Nat → Bool → Int → Int → Int → Int → List (S97) → Option (Int)
  | 0, _, _, _, _, _, _ => none
  | k + 1, x29, x102000, x102001, x102002, x102003, x102004 => if x29 = true then (some 0) else (if x102003 = 3 then (some 0) else (some 40))
end
def rma_Check.f (k : Nat) (a0_0 : Int) (a0_1 : Int) (a0_2 : Int) (a0_3 : Int) (l0_4 : List (S97)) : Option (Int) := (rma_id.f a0_0).bind fun t102 => (if t102 = true then ((rma_id.f a0_1).bind fun t103 => (if t103 = true then ((policy_Time.f a0_2).bind fun t104 => (if t104 = true then ((rma_wanted.f k l0_4).bind fun t105 => (rma_Check.j0 k (!t105) a0_0 a0_1 a0_2 a0_3 l0_4)) else (rma_Check.j0 k true a0_0 a0_1 a0_2 a0_3 l0_4))) else (rma_Check.j0 k true a0_0 a0_1 a0_2 a0_3 l0_4))) else (rma_Check.j0 k true a0_0 a0_1 a0_2 a0_3 l0_4))
theorem rma_Check.mono_l : ∀ k, (∀ y0 y1 y2 y3 y4 y5, LeO (rma_Check.j0 k y0 y1 y2 y3 y4 y5) (rma_Check.j0 (k + 1) y0 y1 y2 y3 y4 y5)) ∧ (∀ y0 y1 y2 y3 y4 y5 y6, LeO (rma_Check.j1 k y0 y1 y2 y3 y4 y5 y6) (rma_Check.j1 (k + 1) y0 y1 y2 y3 y4 y5 y6)) ∧ (∀ y0 y1 y2 y3 y4 y5, LeO (rma_Check.j2 k y0 y1 y2 y3 y4 y5) (rma_Check.j2 (k + 1) y0 y1 y2 y3 y4 y5))
  | 0 => ⟨fun _ _ _ _ _ _ r h => by simp [rma_Check.j0] at h, fun _ _ _ _ _ _ _ r h => by simp [rma_Check.j1] at h, fun _ _ _ _ _ _ r h => by simp [rma_Check.j2] at h⟩
  | k + 1 => by
    obtain ⟨ih0, ih1, ih2⟩ := rma_Check.mono_l k
    refine ⟨?_, ?_, ?_⟩
    · intro y0 y1 y2 y3 y4 y5
      unfold rma_Check.j0
      repeat' first
      | (with_reducible exact ih0 _ _ _ _ _ _)
      | (with_reducible exact ih1 _ _ _ _ _ _ _)
      | (with_reducible exact ih2 _ _ _ _ _ _)
      | (with_reducible exact rma_wanted.mono _ _)
      | (with_reducible exact slices_ContainsFunc_rma_waits.mono _ _)
      | (with_reducible exact LeO.refl _)
      | (with_reducible exact LeO.none _)
      | (with_reducible refine LeO.ite ?_ ?_)
      | (with_reducible refine LeO.bind ?_ (fun _ => ?_))
      | exact ih0 _ _ _ _ _ _
      | exact ih1 _ _ _ _ _ _ _
      | exact ih2 _ _ _ _ _ _
      | exact rma_wanted.mono _ _
      | exact slices_ContainsFunc_rma_waits.mono _ _
      | exact LeO.none _
      | refine LeO.ite ?_ ?_
      | refine LeO.bind ?_ (fun _ => ?_)
    · intro y0 y1 y2 y3 y4 y5 y6
      unfold rma_Check.j1
      repeat' first
      | (with_reducible exact ih0 _ _ _ _ _ _)
      | (with_reducible exact ih1 _ _ _ _ _ _ _)
      | (with_reducible exact ih2 _ _ _ _ _ _)
      | (with_reducible exact rma_wanted.mono _ _)
      | (with_reducible exact slices_ContainsFunc_rma_waits.mono _ _)
      | (with_reducible exact LeO.refl _)
      | (with_reducible exact LeO.none _)
      | (with_reducible refine LeO.ite ?_ ?_)
      | (with_reducible refine LeO.bind ?_ (fun _ => ?_))
      | exact ih0 _ _ _ _ _ _
      | exact ih1 _ _ _ _ _ _ _
      | exact ih2 _ _ _ _ _ _
      | exact rma_wanted.mono _ _
      | exact slices_ContainsFunc_rma_waits.mono _ _
      | exact LeO.none _
      | refine LeO.ite ?_ ?_
      | refine LeO.bind ?_ (fun _ => ?_)
    intro y0 y1 y2 y3 y4 y5
    unfold rma_Check.j2
    repeat' first
    | (with_reducible exact ih0 _ _ _ _ _ _)
    | (with_reducible exact ih1 _ _ _ _ _ _ _)
    | (with_reducible exact ih2 _ _ _ _ _ _)
    | (with_reducible exact rma_wanted.mono _ _)
    | (with_reducible exact slices_ContainsFunc_rma_waits.mono _ _)
    | (with_reducible exact LeO.refl _)
    | (with_reducible exact LeO.none _)
    | (with_reducible refine LeO.ite ?_ ?_)
    | (with_reducible refine LeO.bind ?_ (fun _ => ?_))
    | exact ih0 _ _ _ _ _ _
    | exact ih1 _ _ _ _ _ _ _
    | exact ih2 _ _ _ _ _ _
    | exact rma_wanted.mono _ _
    | exact slices_ContainsFunc_rma_waits.mono _ _
    | exact LeO.none _
    | refine LeO.ite ?_ ?_
    | refine LeO.bind ?_ (fun _ => ?_)
theorem rma_Check.mono : ∀ a0 a1 a2 a3 a4 k, LeO (rma_Check.f k a0 a1 a2 a3 a4) (rma_Check.f (k + 1) a0 a1 a2 a3 a4) := by
  intro a0 a1 a2 a3 a4 k
  obtain ⟨ih0, ih1, ih2⟩ := rma_Check.mono_l k
  unfold rma_Check.f
  repeat' first
      | (with_reducible exact ih0 _ _ _ _ _ _)
      | (with_reducible exact ih1 _ _ _ _ _ _ _)
      | (with_reducible exact ih2 _ _ _ _ _ _)
      | (with_reducible exact rma_wanted.mono _ _)
      | (with_reducible exact slices_ContainsFunc_rma_waits.mono _ _)
      | (with_reducible exact LeO.refl _)
      | (with_reducible exact LeO.none _)
      | (with_reducible refine LeO.ite ?_ ?_)
      | (with_reducible refine LeO.bind ?_ (fun _ => ?_))
      | exact ih0 _ _ _ _ _ _
      | exact ih1 _ _ _ _ _ _ _
      | exact ih2 _ _ _ _ _ _
      | exact rma_wanted.mono _ _
      | exact slices_ContainsFunc_rma_waits.mono _ _
      | exact LeO.none _
      | refine LeO.ite ?_ ?_
      | refine LeO.bind ?_ (fun _ => ?_)
set_option maxHeartbeats 8000000 in
set_option maxRecDepth 100000 in
theorem rma_Check.calls (k : Nat) (a0_0 : Int) (a0_1 : Int) (a0_2 : Int) (a0_3 : Int) (A0_4 : Option Addr) (c0_4 : Nat) (l0_4 : List (S97)) (r : Int) (w : World) (hr0_4 : Kd.C k97 w A0_4 l0_4.length l0_4) (hc0_4 : l0_4.length ≤ c0_4) (h : rma_Check.f k a0_0 a0_1 a0_2 a0_3 l0_4 = some r) :
    Calls Try.prog 52 #[.agg #[.int .i64 a0_0, .int .i64 a0_1, .int .i64 a0_2, .int .i64 a0_3, .slice A0_4 l0_4.length c0_4]] w fun e w' => e = .returned (.int .i64 r) ∧ Below w.heap.size w w' := by
  have hu70 := Try.underlying70
  have HR0_4 := zA hr0_4
  have HC0_4 := zA hc0_4
  clear hr0_4 hc0_4
  have HB := zA (Below.refl w.heap.size w)
  have H : ((rma_id.f a0_0).bind fun t102 => (if t102 = true then ((rma_id.f a0_1).bind fun t103 => (if t103 = true then ((policy_Time.f a0_2).bind fun t104 => (if t104 = true then ((rma_wanted.f k l0_4).bind fun t105 => (rma_Check.j0 k (!t105) a0_0 a0_1 a0_2 a0_3 l0_4)) else (rma_Check.j0 k true a0_0 a0_1 a0_2 a0_3 l0_4))) else (rma_Check.j0 k true a0_0 a0_1 a0_2 a0_3 l0_4))) else (rma_Check.j0 k true a0_0 a0_1 a0_2 a0_3 l0_4))) = some r := h
  clear h
  have HC2 := zA H
  clear H
  go_enter Try.func52, Try.ntmps52
  go_upto_region 1 with (first | ((with_reducible refine gate_dst (N := 1) rfl ?_); refine box_event qr (N := 1) qr (cs := #[.int .i64 a0_0, .int .i64 a0_1, .int .i64 a0_2, .int .i64 a0_3, .slice A0_4 l0_4.length c0_4]) (t := 70) qg ?_; intro gb101 hg w3 hbox hb; have n0_ := zA (zV qB hb); have n1_ := zA (hbox); have n2_ := zA ((qS : w.heap.size ≤ gb101)); have n3_ := zA ((qS : w.heap.size ≤ gb101)); clear HB; have HB := n0_; have BK101 := n1_; have GW101 := n2_; have GE101 := n3_; clear n0_ n1_ n2_ n3_ hb hbox hg))
  (try simp only [Act.put, zH, zI, zJ])
  go_cut [25] (fun v25 wc => ∃ (kq : Nat) (x25_1 : Bool), v25 = .bool x25_1 ∧ Aside0 (rma_Check.j0 kq x25_1 a0_0 a0_1 a0_2 a0_3 l0_4 = some r) ∧ Aside0 (kq ≤ k) ∧ Aside0 (wc.heap[gb101]? = some (.cells #[.int .i64 a0_0, .int .i64 a0_1, .int .i64 a0_2, .int .i64 a0_3, (.slice A0_4 l0_4.length c0_4)] 70 (0, 0))) ∧ Aside0 (Below w.heap.size w wc))
  case first =>
    have H := HC2.out; clear HC2; replace H := Option.bind_eq_some_iff.mp H; obtain ⟨t102, A40, H⟩ := H; replace H : (if t102 = true then ((rma_id.f a0_1).bind fun t103 => (if t103 = true then ((policy_Time.f a0_2).bind fun t104 => (if t104 = true then ((rma_wanted.f k l0_4).bind fun t105 => (rma_Check.j0 k (!t105) a0_0 a0_1 a0_2 a0_3 l0_4)) else (rma_Check.j0 k true a0_0 a0_1 a0_2 a0_3 l0_4))) else (rma_Check.j0 k true a0_0 a0_1 a0_2 a0_3 l0_4))) else (rma_Check.j0 k true a0_0 a0_1 a0_2 a0_3 l0_4)) = some r := H; have A4 := zA A40; clear A40; by_cases c5 : t102 = true
    · subst c5
      have H1 : ((rma_id.f a0_1).bind fun t103 => (if t103 = true then ((policy_Time.f a0_2).bind fun t104 => (if t104 = true then ((rma_wanted.f k l0_4).bind fun t105 => (rma_Check.j0 k (!t105) a0_0 a0_1 a0_2 a0_3 l0_4)) else (rma_Check.j0 k true a0_0 a0_1 a0_2 a0_3 l0_4))) else (rma_Check.j0 k true a0_0 a0_1 a0_2 a0_3 l0_4))) = some r := by first | (rw [if_pos rfl] at H; exact H) | rfl
      clear H; have H := H1; clear H1; replace H := Option.bind_eq_some_iff.mp H; obtain ⟨t103, A60, H⟩ := H; replace H : (if t103 = true then ((policy_Time.f a0_2).bind fun t104 => (if t104 = true then ((rma_wanted.f k l0_4).bind fun t105 => (rma_Check.j0 k (!t105) a0_0 a0_1 a0_2 a0_3 l0_4)) else (rma_Check.j0 k true a0_0 a0_1 a0_2 a0_3 l0_4))) else (rma_Check.j0 k true a0_0 a0_1 a0_2 a0_3 l0_4)) = some r := H; have A6 := zA A60; clear A60; by_cases c7 : t103 = true
      · subst c7
        have H1 : ((policy_Time.f a0_2).bind fun t104 => (if t104 = true then ((rma_wanted.f k l0_4).bind fun t105 => (rma_Check.j0 k (!t105) a0_0 a0_1 a0_2 a0_3 l0_4)) else (rma_Check.j0 k true a0_0 a0_1 a0_2 a0_3 l0_4))) = some r := by first | (rw [if_pos rfl] at H; exact H) | rfl
        clear H; have H := H1; clear H1; replace H := Option.bind_eq_some_iff.mp H; obtain ⟨t104, A80, H⟩ := H; replace H : (if t104 = true then ((rma_wanted.f k l0_4).bind fun t105 => (rma_Check.j0 k (!t105) a0_0 a0_1 a0_2 a0_3 l0_4)) else (rma_Check.j0 k true a0_0 a0_1 a0_2 a0_3 l0_4)) = some r := H; have A8 := zA A80; clear A80; by_cases c9 : t104 = true
        · subst c9
          have H1 : ((rma_wanted.f k l0_4).bind fun t105 => (rma_Check.j0 k (!t105) a0_0 a0_1 a0_2 a0_3 l0_4)) = some r := by first | (rw [if_pos rfl] at H; exact H) | rfl
          clear H; have H := H1; clear H1; replace H := Option.bind_eq_some_iff.mp H; obtain ⟨t105, A100, H⟩ := H; replace H : (rma_Check.j0 k (!t105) a0_0 a0_1 a0_2 a0_3 l0_4) = some r := H; have A10 := zA A100; clear A100; have H' := zA H; clear H; obtain ⟨_, _, _, _, _, _, _, _, _, _⟩ := qc5f BK101.out; go_wp2_with (first | ((with_reducible refine zJq (f := 141) rfl ?_); refine goesL_ (some 6) rfl rfl Try.func141 (by kernel_rfl) rfl #[.int .i64 a0_0] rfl (by (try simp only [zR, zS, zT]); first | done | rfl | (simp only [zP, zQ]; rfl)) ?_; (with_reducible refine (rma_id.calls a0_0 true _ A4.out).mono ?_); rintro e w' ⟨rfl, ⟨nd, rfl⟩⟩; refine ⟨_, rfl, ?_⟩) | (go_at_call 141; (with_reducible refine (rma_id.calls a0_1 true _ A6.out).mono ?_); rintro e w' ⟨rfl, ⟨nd, rfl⟩⟩) | (go_at_call 142; (with_reducible refine (policy_Time.calls a0_2 true _ A8.out).mono ?_); rintro e w12 ⟨rfl, hb⟩; have n0_ := zA (qX BK101.out hb); have n1_ := zA (zV qB hb); clear BK101 HB; have BK101 := n0_; have HB := n1_; clear n0_ n1_; (try clear hb); (try clear hb2); (try clear hk); (try clear hi); obtain ⟨_, _, _, _, _, _, _, _, _, _⟩ := qc5f BK101.out) | (go_at_call 143; (with_reducible refine (rma_wanted.calls k _ _ l0_4 t105 _ ?side1 ?side2 A10.out).mono ?_); (case side1 => exact qC (Kd.C_below HR0_4.out HB.out)); (case side2 => exact HC0_4.out); rintro e w14 ⟨rfl, hb⟩; have n0_ := zA (qX BK101.out hb); have n1_ := zA (zV qB hb); clear BK101 HB; have BK101 := n0_; have HB := n1_; clear n0_ n1_; (try clear hb); (try clear hb2); (try clear hk); (try clear hi))); go_meet
          case rel => exact ⟨_, (!t105), (by first | rfl | (simp; done) | (simp [*]; done)), H', ⟨by first | omega | exact Nat.le_refl _⟩, ⟨by exact BK101.out⟩, ⟨qB⟩⟩
        replace c9 := Bool.eq_false_iff.mpr c9; subst c9; have H1 : (rma_Check.j0 k true a0_0 a0_1 a0_2 a0_3 l0_4) = some r := by first | (rw [if_neg (show ¬ (false = true) by decide)] at H; exact H) | rfl
        clear H; have H := H1; clear H1; have H' := zA H; clear H; obtain ⟨_, _, _, _, _, _, _, _, _, _⟩ := qc5f BK101.out; go_wp2_with (first | ((with_reducible refine zJq (f := 141) rfl ?_); refine goesL_ (some 6) rfl rfl Try.func141 (by kernel_rfl) rfl #[.int .i64 a0_0] rfl (by (try simp only [zR, zS, zT]); first | done | rfl | (simp only [zP, zQ]; rfl)) ?_; (with_reducible refine (rma_id.calls a0_0 true _ A4.out).mono ?_); rintro e w' ⟨rfl, ⟨nd, rfl⟩⟩; refine ⟨_, rfl, ?_⟩) | (go_at_call 141; (with_reducible refine (rma_id.calls a0_1 true _ A6.out).mono ?_); rintro e w' ⟨rfl, ⟨nd, rfl⟩⟩) | (go_at_call 142; (with_reducible refine (policy_Time.calls a0_2 false _ A8.out).mono ?_); rintro e w16 ⟨rfl, hb⟩; have n0_ := zA (qX BK101.out hb); have n1_ := zA (zV qB hb); clear BK101 HB; have BK101 := n0_; have HB := n1_; clear n0_ n1_; (try clear hb); (try clear hb2); (try clear hk); (try clear hi))); go_meet
        case rel => exact ⟨_, (true), (by first | rfl | (simp; done) | (simp [*]; done)), H', ⟨by first | omega | exact Nat.le_refl _⟩, ⟨by exact BK101.out⟩, ⟨qB⟩⟩
      replace c7 := Bool.eq_false_iff.mpr c7; subst c7; have H1 : (rma_Check.j0 k true a0_0 a0_1 a0_2 a0_3 l0_4) = some r := by first | (rw [if_neg (show ¬ (false = true) by decide)] at H; exact H) | rfl
      clear H; have H := H1; clear H1; have H' := zA H; clear H; obtain ⟨_, _, _, _, _, _, _, _, _, _⟩ := qc5f BK101.out; go_wp2_with (first | ((with_reducible refine zJq (f := 141) rfl ?_); refine goesL_ (some 6) rfl rfl Try.func141 (by kernel_rfl) rfl #[.int .i64 a0_0] rfl (by (try simp only [zR, zS, zT]); first | done | rfl | (simp only [zP, zQ]; rfl)) ?_; (with_reducible refine (rma_id.calls a0_0 true _ A4.out).mono ?_); rintro e w' ⟨rfl, ⟨nd, rfl⟩⟩; refine ⟨_, rfl, ?_⟩) | (go_at_call 141; (with_reducible refine (rma_id.calls a0_1 false _ A6.out).mono ?_); rintro e w' ⟨rfl, ⟨nd, rfl⟩⟩)); go_meet
      case rel => exact ⟨_, (true), (by first | rfl | (simp; done) | (simp [*]; done)), H', ⟨by first | omega | exact Nat.le_refl _⟩, ⟨by exact BK101.out⟩, ⟨qB⟩⟩
    replace c5 := Bool.eq_false_iff.mpr c5; subst c5; have H1 : (rma_Check.j0 k true a0_0 a0_1 a0_2 a0_3 l0_4) = some r := by first | (rw [if_neg (show ¬ (false = true) by decide)] at H; exact H) | rfl
    clear H; have H := H1; clear H1; have H' := zA H; clear H; obtain ⟨_, _, _, _, _, _, _, _, _, _⟩ := qc5f BK101.out; go_wp2_with (first | ((with_reducible refine zJq (f := 141) rfl ?_); refine goesL_ (some 6) rfl rfl Try.func141 (by kernel_rfl) rfl #[.int .i64 a0_0] rfl (by (try simp only [zR, zS, zT]); first | done | rfl | (simp only [zP, zQ]; rfl)) ?_; (with_reducible refine (rma_id.calls a0_0 false _ A4.out).mono ?_); rintro e w' ⟨rfl, ⟨nd, rfl⟩⟩; refine ⟨_, rfl, ?_⟩)); go_meet
    case rel => exact ⟨_, (true), (by first | rfl | (simp; done) | (simp [*]; done)), H', ⟨by first | omega | exact Nat.le_refl _⟩, ⟨by exact BK101.out⟩, ⟨qB⟩⟩
  case rest =>
    clear HC2; try clear c1
    try clear p2
    try clear c5
    try clear c7
    try clear c9
    try clear c14
    obtain ⟨kq, x25_1, rfl, HA, HJ1, BK101, HB⟩ := hcut; cases kq with
    | zero => exact absurd HA.out (by simp [rma_Check.j0])
    | succ kj1 =>
      have H := HA.out; clear HA; simp only [rma_Check.j0] at H; by_cases c19 : x25_1 = true
      · subst c19
        have H1 : (some 40) = some r := by first | (rw [if_pos rfl] at H; exact H) | rfl
        clear H; have H := H1; clear H1; obtain rfl := zKq H; go_wp2; go_ret; exact ⟨qE, qB⟩
      replace c19 := Bool.eq_false_iff.mpr c19; subst c19; have H1 : ((slices_ContainsFunc_rma_waits.f kj1 l0_4).bind fun t106 => (if a0_3 = 1 then (rma_Check.j1 kj1 t106 t106 a0_0 a0_1 a0_2 a0_3 l0_4) else (rma_Check.j1 kj1 t106 false a0_0 a0_1 a0_2 a0_3 l0_4))) = some r := by first | (rw [if_neg (show ¬ (false = true) by decide)] at H; exact H) | rfl
      clear H; have H := H1; clear H1; replace H := Option.bind_eq_some_iff.mp H; obtain ⟨t106, A200, H⟩ := H; replace H : (if a0_3 = 1 then (rma_Check.j1 kj1 t106 t106 a0_0 a0_1 a0_2 a0_3 l0_4) else (rma_Check.j1 kj1 t106 false a0_0 a0_1 a0_2 a0_3 l0_4)) = some r := H; have A20 := zA A200; clear A200; have HC21 := zA H; clear H; obtain ⟨_, _, _, _, _, _, _, _, _, _⟩ := qc5f BK101.out; go_upto_region 4 with (first | (go_at_call 144; (with_reducible refine (slices_ContainsFunc_rma_waits.calls kj1 _ _ l0_4  t106 _ ?side1 ?side2 A20.out).mono ?_); (case side1 => exact qC (Kd.C_below HR0_4.out HB.out)); (case side2 => exact HC0_4.out); rintro e w23 ⟨rfl, hb⟩; have n0_ := zA (qX BK101.out hb); have n1_ := zA (zV qB hb); clear BK101 HB; have BK101 := n0_; have HB := n1_; clear n0_ n1_; (try clear hb); (try clear hb2); (try clear hk); (try clear hi)))
      (try simp only [Act.put, zH, zI, zJ])
      go_cut [29] (fun v29 wc => ∃ (kq : Nat) (x29_20 : Bool), v29 = .bool x29_20 ∧ Aside0 (rma_Check.j1 kq t106 x29_20 a0_0 a0_1 a0_2 a0_3 l0_4 = some r) ∧ Aside0 (kq ≤ kj1) ∧ Aside0 (wc.heap[gb101]? = some (.cells #[.int .i64 a0_0, .int .i64 a0_1, .int .i64 a0_2, .int .i64 a0_3, (.slice A0_4 l0_4.length c0_4)] 70 (0, 0))) ∧ Aside0 (Below w.heap.size w wc))
      case first =>
        have H := HC21.out; clear HC21; by_cases c24 : a0_3 = 1
        · rw [if_pos c24] at H
          have c24b0 : (a0_3 == 1) = true := beq_iff_eq.mpr c24; have c24b1 : (a0_3 != 1) = false := bne_eq_false_iff_eq.mpr c24; clear c24; (first | rw [c24b0] | (simp only [i64_w, i32_w]; rw [c24b0]) | skip)
          have H' := zA H; clear H; obtain ⟨_, _, _, _, _, _, _, _, _, _⟩ := qc5f BK101.out; go_wp2; go_meet
          case rel => exact ⟨_, (t106), (by first | rfl | (simp; done) | (simp [*]; done)), H', ⟨by have := HJ1.out; first | omega | exact Nat.le_refl _⟩, ⟨by exact BK101.out⟩, ⟨qB⟩⟩
        rw [if_neg c24] at H; have c24b0 : (a0_3 == 1) = false := beq_eq_false_iff_ne.mpr c24; have c24b1 : (a0_3 != 1) = true := bne_iff_ne.mpr c24; (first | rw [c24b0] | (simp only [i64_w, i32_w]; rw [c24b0]) | skip)
        have H' := zA H; clear H; obtain ⟨_, _, _, _, _, _, _, _, _, _⟩ := qc5f BK101.out; go_wp2; go_meet
        case rel => exact ⟨_, (false), (by first | rfl | (simp; done) | (simp [*]; done)), H', ⟨by have := HJ1.out; first | omega | exact Nat.le_refl _⟩, ⟨by exact BK101.out⟩, ⟨qB⟩⟩
      case rest =>
        clear HC21; try clear c1
        try clear c2
        try clear p2
        try clear c5
        try clear c7
        try clear c9
        try clear c14
        try clear c19
        try clear c24
        try clear c24b0
        try clear c24b1
        try clear p2
        obtain ⟨kq, x29_20, rfl, HA, HJ20, BK101, HB⟩ := hcut; cases kq with
        | zero => exact absurd HA.out (by simp [rma_Check.j1])
        | succ kj20 =>
          have H := HA.out; clear HA; simp only [rma_Check.j1] at H; by_cases c27 : x29_20 = true
          · subst c27
            have H1 : (some 0) = some r := by first | (rw [if_pos rfl] at H; exact H) | rfl
            clear H; have H := H1; clear H1; obtain rfl := zKq H; go_wp2; go_ret; exact ⟨qE, qB⟩
          replace c27 := Bool.eq_false_iff.mpr c27; subst c27; have H1 : (if a0_3 = 2 then (rma_Check.j2 kj20 (!t106) a0_0 a0_1 a0_2 a0_3 l0_4) else (rma_Check.j2 kj20 false a0_0 a0_1 a0_2 a0_3 l0_4)) = some r := by first | (rw [if_neg (show ¬ (false = true) by decide)] at H; exact H) | rfl
          clear H; have H := H1; clear H1; have HC28 := zA H; clear H; go_upto_region 5 with (fail)
          go_cut [29] (fun v29 wc => ∃ (kq : Nat) (x29_27 : Bool), v29 = .bool x29_27 ∧ Aside0 (rma_Check.j2 kq x29_27 a0_0 a0_1 a0_2 a0_3 l0_4 = some r) ∧ Aside0 (kq ≤ kj20) ∧ Aside0 (wc.heap[gb101]? = some (.cells #[.int .i64 a0_0, .int .i64 a0_1, .int .i64 a0_2, .int .i64 a0_3, (.slice A0_4 l0_4.length c0_4)] 70 (0, 0))) ∧ Aside0 (Below w.heap.size w wc))
          case first =>
            have H := HC28.out; clear HC28; by_cases c29 : a0_3 = 2
            · rw [if_pos c29] at H
              have c29b0 : (a0_3 == 2) = true := beq_iff_eq.mpr c29; have c29b1 : (a0_3 != 2) = false := bne_eq_false_iff_eq.mpr c29; clear c29; (first | rw [c29b0] | (simp only [i64_w, i32_w]; rw [c29b0]) | skip)
              have H' := zA H; clear H; obtain ⟨_, _, _, _, _, _, _, _, _, _⟩ := qc5f BK101.out; go_wp2; go_meet
              case rel => exact ⟨_, (!t106), (by first | rfl | (simp; done) | (simp [*]; done)), H', ⟨by have := HJ1.out; have := HJ20.out; first | omega | exact Nat.le_refl _⟩, ⟨by exact BK101.out⟩, ⟨qB⟩⟩
            rw [if_neg c29] at H; have c29b0 : (a0_3 == 2) = false := beq_eq_false_iff_ne.mpr c29; have c29b1 : (a0_3 != 2) = true := bne_iff_ne.mpr c29; (first | rw [c29b0] | (simp only [i64_w, i32_w]; rw [c29b0]) | skip)
            have H' := zA H; clear H; obtain ⟨_, _, _, _, _, _, _, _, _, _⟩ := qc5f BK101.out; go_wp2; go_meet
            case rel => exact ⟨_, (false), (by first | rfl | (simp; done) | (simp [*]; done)), H', ⟨by have := HJ1.out; have := HJ20.out; first | omega | exact Nat.le_refl _⟩, ⟨by exact BK101.out⟩, ⟨qB⟩⟩
          case rest =>
            clear HC28; try clear c1
            try clear c2
            try clear p2
            try clear c5
            try clear c7
            try clear c9
            try clear c14
            try clear c19
            try clear c24
            try clear c24b0
            try clear c24b1
            try clear c27
            try clear c29
            try clear c29b0
            try clear c29b1
            try clear p2
            obtain ⟨kq, x29_27, rfl, HA, HJ27, BK101, HB⟩ := hcut; cases kq with
            | zero => exact absurd HA.out (by simp [rma_Check.j2])
            | succ kj27 =>
              have H := HA.out; clear HA; simp only [rma_Check.j2] at H; by_cases c32 : x29_27 = true
              · subst c32
                have H1 : (some 0) = some r := by first | (rw [if_pos rfl] at H; exact H) | rfl
                clear H; have H := H1; clear H1; obtain rfl := zKq H; go_wp2; go_ret; exact ⟨qE, qB⟩
              replace c32 := Bool.eq_false_iff.mpr c32; subst c32; have H1 : (if a0_3 = 3 then (some 0) else (some 40)) = some r := by first | (rw [if_neg (show ¬ (false = true) by decide)] at H; exact H) | rfl
              clear H; have H := H1; clear H1; by_cases c33 : a0_3 = 3
              · rw [if_pos c33] at H
                have c33b0 : (a0_3 == 3) = true := beq_iff_eq.mpr c33; have c33b1 : (a0_3 != 3) = false := bne_eq_false_iff_eq.mpr c33; clear c33; obtain rfl := zKq H; obtain ⟨_, _, _, _, _, _, _, _, _, _⟩ := qc5f BK101.out; go_wp2; go_ret; exact ⟨qE, qB⟩
              rw [if_neg c33] at H; have c33b0 : (a0_3 == 3) = false := beq_eq_false_iff_ne.mpr c33; have c33b1 : (a0_3 != 3) = true := bne_iff_ne.mpr c33; obtain rfl := zKq H; obtain ⟨_, _, _, _, _, _, _, _, _, _⟩ := qc5f BK101.out; go_wp2; go_ret; exact ⟨qE, qB⟩
def serial_folded.f (a0 : Int) : Option (Int) := if a0 ≥ 97 then (if a0 ≤ 122 then (some (wrap32 ((wrap32 (a0 - 97)) + 65))) else (some a0)) else (some a0)
set_option maxHeartbeats 8000000 in
set_option maxRecDepth 100000 in
theorem serial_folded.calls (a0 : Int) (r : Int) (w : World) (h : serial_folded.f a0 = some r) :
    Calls Try.prog 258 #[.int .i32 a0] w fun e w' => e = .returned (.int .i32 r) ∧ Drawn0 w w' := by
  have H : (if a0 ≥ 97 then (if a0 ≤ 122 then (some (wrap32 ((wrap32 (a0 - 97)) + 65))) else (some a0)) else (some a0)) = some r := h
  clear h
  by_cases c2 : a0 ≥ 97
  · rw [if_pos c2] at H
    have c2b0 : decide (97 ≤ a0) = true := zFq c2; clear c2; by_cases c3 : a0 ≤ 122
    · rw [if_pos c3] at H
      have c3b0 : decide (a0 ≤ 122) = true := zFq c3; clear c3; obtain rfl := zKq H; go_enter Try.func258, Try.ntmps258; go_wp2; go_ret; exact ⟨by first | rfl | (simp; done) | (simp [*]; done), by repeat (first | exact Drawn0.refl _ | apply Drawn0.step)⟩
    rw [if_neg c3] at H; have c3b0 : decide (a0 ≤ 122) = false := zGq c3; clear c3; obtain rfl := zKq H; go_enter Try.func258, Try.ntmps258; go_wp2; go_ret; exact ⟨by first | rfl | (simp; done) | (simp [*]; done), by repeat (first | exact Drawn0.refl _ | apply Drawn0.step)⟩
  rw [if_neg c2] at H
  have c2b0 : decide (97 ≤ a0) = false := zGq c2
  clear c2
  obtain rfl := zKq H
  go_enter Try.func258, Try.ntmps258
  go_wp2
  go_ret
  exact ⟨by first | rfl | (simp; done) | (simp [*]; done), by repeat (first | exact Drawn0.refl _ | apply Drawn0.step)⟩
mutual
def serial_Class.j0 : Nat → Int → Bool → Option (Int)
  | 0, _, _ => none
  | k + 1, x0, x3 => if x3 = true then (some 1) else (if x0 ≥ 48 then (serial_Class.j1 k x0 (decide (x0 ≤ 57))) else (serial_Class.j1 k x0 false))
def serial_Class.j1 : Nat → Int → Bool → Option (Int)
  | 0, _, _ => none
  | k + 1, x0, x18 => if x18 = true then (some 2) else (if x0 = 45 then (some 3) else (some 0))
end
def serial_Class.f (k : Nat) (a0 : Int) : Option (Int) := if a0 ≥ 97 then (if a0 ≤ 122 then (serial_Class.j0 k a0 true) else (if a0 ≥ 65 then (serial_Class.j0 k a0 (decide (a0 ≤ 90))) else (serial_Class.j0 k a0 false))) else (if a0 ≥ 65 then (serial_Class.j0 k a0 (decide (a0 ≤ 90))) else (serial_Class.j0 k a0 false))
set_option maxHeartbeats 8000000 in
set_option maxRecDepth 100000 in
theorem serial_Class.calls (k : Nat) (a0 : Int) (r : Int) (w : World) (h : serial_Class.f k a0 = some r) :
    Calls Try.prog 283 #[.int .i32 a0] w fun e w' => e = .returned (.int .i64 r) ∧ Drawn0 w w' := by
  have H : (if a0 ≥ 97 then (if a0 ≤ 122 then (serial_Class.j0 k a0 true) else (if a0 ≥ 65 then (serial_Class.j0 k a0 (decide (a0 ≤ 90))) else (serial_Class.j0 k a0 false))) else (if a0 ≥ 65 then (serial_Class.j0 k a0 (decide (a0 ≤ 90))) else (serial_Class.j0 k a0 false))) = some r := h
  clear h
  have HC2 := zA H
  clear H
  go_enter Try.func283, Try.ntmps283
  go_upto_region 1 with (fail)
  go_cut [3] (fun v3 wc => ∃ (kq : Nat) (x3_1 : Bool), v3 = .bool x3_1 ∧ Aside0 (serial_Class.j0 kq a0 x3_1 = some r) ∧ Aside0 (kq ≤ k) ∧ Drawn0 w wc)
  case first =>
    have H := HC2.out; clear HC2; by_cases c3 : a0 ≥ 97
    · rw [if_pos c3] at H
      have c3b0 : decide (97 ≤ a0) = true := zFq c3; clear c3; (first | rw [c3b0] | (simp only [i64_w, i32_w]; rw [c3b0]) | skip)
      by_cases c4 : a0 ≤ 122
      · rw [if_pos c4] at H
        have c4b0 : decide (a0 ≤ 122) = true := zFq c4; clear c4; have H' := zA H; clear H; go_wp2; go_meet
        case rel => exact ⟨_, (true), (by first | rfl | (simp; done) | (simp [*]; done)), H', ⟨by first | omega | exact Nat.le_refl _⟩, by repeat (first | exact Drawn0.refl _ | apply Drawn0.step)⟩
      rw [if_neg c4] at H; have c4b0 : decide (a0 ≤ 122) = false := zGq c4; clear c4; by_cases c5 : a0 ≥ 65
      · rw [if_pos c5] at H
        have c5b0 : decide (65 ≤ a0) = true := zFq c5; clear c5; have H' := zA H; clear H; go_wp2; go_meet
        case rel => exact ⟨_, (decide (a0 ≤ 90)), (by first | rfl | (simp; done) | (simp [*]; done)), H', ⟨by first | omega | exact Nat.le_refl _⟩, by repeat (first | exact Drawn0.refl _ | apply Drawn0.step)⟩
      rw [if_neg c5] at H; have c5b0 : decide (65 ≤ a0) = false := zGq c5; clear c5; have H' := zA H; clear H; go_wp2; go_meet
      case rel => exact ⟨_, (false), (by first | rfl | (simp; done) | (simp [*]; done)), H', ⟨by first | omega | exact Nat.le_refl _⟩, by repeat (first | exact Drawn0.refl _ | apply Drawn0.step)⟩
    rw [if_neg c3] at H; have c3b0 : decide (97 ≤ a0) = false := zGq c3; clear c3; (first | rw [c3b0] | (simp only [i64_w, i32_w]; rw [c3b0]) | skip)
    by_cases c6 : a0 ≥ 65
    · rw [if_pos c6] at H
      have c6b0 : decide (65 ≤ a0) = true := zFq c6; clear c6; have H' := zA H; clear H; go_wp2; go_meet
      case rel => exact ⟨_, (decide (a0 ≤ 90)), (by first | rfl | (simp; done) | (simp [*]; done)), H', ⟨by first | omega | exact Nat.le_refl _⟩, by repeat (first | exact Drawn0.refl _ | apply Drawn0.step)⟩
    rw [if_neg c6] at H; have c6b0 : decide (65 ≤ a0) = false := zGq c6; clear c6; have H' := zA H; clear H; go_wp2; go_meet
    case rel => exact ⟨_, (false), (by first | rfl | (simp; done) | (simp [*]; done)), H', ⟨by first | omega | exact Nat.le_refl _⟩, by repeat (first | exact Drawn0.refl _ | apply Drawn0.step)⟩
  case rest =>
    clear HC2; try clear c2
    try clear p2
    try clear c3
    try clear c3b0
    try clear c4
    try clear c4b0
    try clear c5
    try clear c5b0
    try clear c6
    try clear c6b0
    obtain ⟨kq, x3_1, rfl, HA, HJ1, ⟨mc1, rfl⟩⟩ := hcut; cases kq with
    | zero => exact absurd HA.out (by simp [serial_Class.j0])
    | succ kj1 =>
      have H := HA.out; clear HA; simp only [serial_Class.j0] at H; by_cases c7 : x3_1 = true
      · subst c7
        have H1 : (some 1) = some r := by first | (rw [if_pos rfl] at H; exact H) | rfl
        clear H; have H := H1; clear H1; obtain rfl := zKq H; go_wp2; go_ret; exact ⟨by first | rfl | (simp; done) | (simp [*]; done), by repeat (first | exact Drawn0.refl _ | apply Drawn0.step)⟩
      replace c7 := Bool.eq_false_iff.mpr c7; subst c7; have H1 : (if a0 ≥ 48 then (serial_Class.j1 kj1 a0 (decide (a0 ≤ 57))) else (serial_Class.j1 kj1 a0 false)) = some r := by first | (rw [if_neg (show ¬ (false = true) by decide)] at H; exact H) | rfl
      clear H; have H := H1; clear H1; have HC8 := zA H; clear H; go_upto_region 3 with (fail)
      go_cut [18] (fun v18 wc => ∃ (kq : Nat) (x18_7 : Bool), v18 = .bool x18_7 ∧ Aside0 (serial_Class.j1 kq a0 x18_7 = some r) ∧ Aside0 (kq ≤ kj1) ∧ Drawn0 w wc)
      case first =>
        have H := HC8.out; clear HC8; by_cases c9 : a0 ≥ 48
        · rw [if_pos c9] at H
          have c9b0 : decide (48 ≤ a0) = true := zFq c9; clear c9; (first | rw [c9b0] | (simp only [i64_w, i32_w]; rw [c9b0]) | skip)
          have H' := zA H; clear H; go_wp2; go_meet
          case rel => exact ⟨_, (decide (a0 ≤ 57)), (by first | rfl | (simp; done) | (simp [*]; done)), H', ⟨by have := HJ1.out; first | omega | exact Nat.le_refl _⟩, by repeat (first | exact Drawn0.refl _ | apply Drawn0.step)⟩
        rw [if_neg c9] at H; have c9b0 : decide (48 ≤ a0) = false := zGq c9; clear c9; (first | rw [c9b0] | (simp only [i64_w, i32_w]; rw [c9b0]) | skip)
        have H' := zA H; clear H; go_wp2; go_meet
        case rel => exact ⟨_, (false), (by first | rfl | (simp; done) | (simp [*]; done)), H', ⟨by have := HJ1.out; first | omega | exact Nat.le_refl _⟩, by repeat (first | exact Drawn0.refl _ | apply Drawn0.step)⟩
      case rest =>
        clear HC8; try clear c1
        try clear c2
        try clear p2
        try clear c3
        try clear c3b0
        try clear c4
        try clear c4b0
        try clear c5
        try clear c5b0
        try clear c6
        try clear c6b0
        try clear c7
        try clear c9
        try clear c9b0
        try clear p2
        obtain ⟨kq, x18_7, rfl, HA, HJ7, ⟨mc7, rfl⟩⟩ := hcut; cases kq with
        | zero => exact absurd HA.out (by simp [serial_Class.j1])
        | succ kj7 =>
          have H := HA.out; clear HA; simp only [serial_Class.j1] at H; by_cases c10 : x18_7 = true
          · subst c10
            have H1 : (some 2) = some r := by first | (rw [if_pos rfl] at H; exact H) | rfl
            clear H; have H := H1; clear H1; obtain rfl := zKq H; go_wp2; go_ret; exact ⟨by first | rfl | (simp; done) | (simp [*]; done), by repeat (first | exact Drawn0.refl _ | apply Drawn0.step)⟩
          replace c10 := Bool.eq_false_iff.mpr c10; subst c10; have H1 : (if a0 = 45 then (some 3) else (some 0)) = some r := by first | (rw [if_neg (show ¬ (false = true) by decide)] at H; exact H) | rfl
          clear H; have H := H1; clear H1; by_cases c11 : a0 = 45
          · rw [if_pos c11] at H
            have c11b0 : (a0 == 45) = true := beq_iff_eq.mpr c11; have c11b1 : (a0 != 45) = false := bne_eq_false_iff_eq.mpr c11; clear c11; obtain rfl := zKq H; go_wp2; go_ret; exact ⟨by first | rfl | (simp; done) | (simp [*]; done), by repeat (first | exact Drawn0.refl _ | apply Drawn0.step)⟩
          rw [if_neg c11] at H; have c11b0 : (a0 == 45) = false := beq_eq_false_iff_ne.mpr c11; have c11b1 : (a0 != 45) = true := bne_iff_ne.mpr c11; obtain rfl := zKq H; go_wp2; go_ret; exact ⟨by first | rfl | (simp; done) | (simp [*]; done), by repeat (first | exact Drawn0.refl _ | apply Drawn0.step)⟩
end Go.Proofs.Ytakkhomjpflkbaa.F
set_option linter.unusedVariables false
set_option linter.unusedSimpArgs false
namespace Go.Proofs.YtakkhomjpflkbaaX
open Go.RowKit
def clsI (r : Int) : Int := if (97 ≤ r ∧ r ≤ 122) ∨ (65 ≤ r ∧ r ≤ 90) then 1 else if 48 ≤ r ∧ r ≤ 57 then 2 else if r = 45 then 3 else 0
def upI (r : Int) : Int := if 97 ≤ r ∧ r ≤ 122 then r - 32 else r
def mayB (c last : Int) : Bool := c != 0 && (c != 3 || last != 3)
def okL : Int → List Int → Bool
  | _, [] => true
  | last, r :: rs => mayB (clsI r) last && okL (clsI r) rs
def runes (l : List UInt8) : List Int := l.map fun b => (b.toNat : Int)
def foldS (s : ByteArray) : ByteArray × Int :=
  if s.size < 1 ∨ s.size > 16 ∨ s.data.toList.getLast? = some 45 ∨ okL 3 (runes s.data.toList) = false then (⟨#[]⟩, 9)
  else (⟨((runes s.data.toList).map fun r => UInt8.ofNat (upI r).toNat).toArray⟩, 0)
def checkS (s : ByteArray) : Int := if (foldS s).2 = 0 ∧ (foldS s).1 = s then 0 else 9
theorem okL_bad {last r : Int} {rs : List Int} (h : mayB (clsI r) last = false) : okL last (r :: rs) = false := by simp [okL, h]
theorem okL_go {last r : Int} {rs : List Int} (h : mayB (clsI r) last = true) : okL last (r :: rs) = okL (clsI r) rs := by simp [okL, h]
theorem cls_high {r : Int} (h : 128 ≤ r) : clsI r = 0 := by unfold clsI; rw [if_neg (by omega), if_neg (by omega), if_neg (by omega)]
theorem mayB_zero {last : Int} : mayB 0 last = false := by simp [mayB]
theorem decode_high' (s : ByteArray) (i : Nat) (h : ¬ (s.get! i).toNat < 128) : 128 ≤ (Utf8.decode s i).1 := by
  unfold Utf8.decode
  simp only [Nat.add_zero]
  rw [if_neg (by omega)]
  have he : Utf8.runeError = 65533 := rfl
  (repeat' split) <;> simp_all <;> omega
theorem size_list (s : ByteArray) : s.data.toList.length = s.size := by rw [Array.length_toList]; rfl
theorem runes_length (l : List UInt8) : (runes l).length = l.length := by simp [runes]
theorem runes_drop (s : ByteArray) (i : Nat) (h : i < s.size) : (runes s.data.toList).drop i = ((s[i]'h).toNat : Int) :: (runes s.data.toList).drop (i + 1) := by
  rw [List.drop_eq_getElem_cons (by rw [runes_length, size_list]; exact h)]
  congr 1
  simp [runes]; rfl
theorem runes_take (s : ByteArray) (i : Nat) (h : i < s.size) : (runes s.data.toList).take (i + 1) = (runes s.data.toList).take i ++ [((s[i]'h).toNat : Int)] := by
  rw [List.take_succ_eq_append_getElem (by rw [runes_length, size_list]; exact h)]
  congr 1
  simp [runes]; rfl
theorem encode_ascii {n : Int} (h0 : 0 ≤ n) (h : n < 128) : Utf8.encode n = ⟨#[UInt8.ofNat n.toNat]⟩ := by
  unfold Utf8.encode
  have hv : Utf8.valid n = true := by simp [Utf8.valid]; omega
  simp only [hv, if_true]
  rw [if_pos (by omega)]
theorem foldl_ascii (ns : List Int) (h : ∀ n ∈ ns, 0 ≤ n ∧ n < 128) : ∀ s : ByteArray, ns.foldl (fun r n => r ++ Utf8.encode n) s = s ++ ⟨(ns.map fun n => UInt8.ofNat n.toNat).toArray⟩ := by
  induction ns with
  | nil => intro s; simp only [List.foldl_nil, List.map_nil]; exact (ByteArray.append_empty).symm
  | cons n ns ih =>
    intro s
    obtain ⟨h0, h1⟩ := h n List.mem_cons_self
    simp only [List.foldl_cons]
    rw [ih (fun m hm => h m (List.mem_cons_of_mem _ hm)), encode_ascii h0 h1]
    ext1
    simp [ByteArray.data_append]
theorem runes_ascii (ns : List Int) (h : ∀ n ∈ ns, 0 ≤ n ∧ n < 128) : runesBytes ns = ⟨(ns.map fun n => UInt8.ofNat n.toNat).toArray⟩ := by
  unfold runesBytes
  rw [foldl_ascii ns h]
  ext1
  simp [ByteArray.data_append]
end Go.Proofs.YtakkhomjpflkbaaX
set_option linter.unusedVariables false
namespace Go.Proofs
open Go.Shelf
def Try.lays100_ren : Go.Shelf.Ren := ⟨fun | 100 => 256 | 207 => 281 | n => n, fun | 9 => 9 | 4 => 4 | 3 => 3 | n => n, fun | n => n⟩
theorem Try.lays100 : Go.Proofs.Lays.n100 Try.prog Try.lays100_ren := {
  mixed := by kernel_rfl
  f100 := Try.func256.trans (congrArg some (by kernel_rfl))
  f207 := Try.func281.trans (congrArg some (by kernel_rfl))
  t3 := Try.underlying3
  a3 := Try.isAgg3
  z3 := Try.sizeOf3
  v3 := Try.zeroValue3
  t4 := Try.underlying4
  a4 := Try.isAgg4
  z4 := Try.sizeOf4
  v4 := Try.zeroValue4
  t9 := Try.underlying9
  a9 := Try.isAgg9
  z9 := Try.sizeOf9
  v9 := Try.zeroValue9 }
open Go.RowKit Go.Lib in
theorem Try.strings_HasSuffix (s p : ByteArray) (w : World) (hs : s.size ≤ 9223372036854775807) :
    Calls Try.prog 256 #[.string s, .string p] w fun e w' => e = .returned (.bool (Lib.hasSuffix s.data.toList p.data.toList)) ∧ w' = w := Any.strings_HasSuffix Try.lays100 s p w hs
def Try.lays195_ren : Go.Shelf.Ren := ⟨fun | 195 => 255 | n => n, fun | 9 => 9 | 3 => 3 | 0 => 0 | 4 => 4 | n => n, fun | n => n⟩
theorem Try.lays195 : Go.Proofs.Lays.n195 Try.prog Try.lays195_ren := {
  mixed := by kernel_rfl
  f195 := Try.func255.trans (congrArg some (by kernel_rfl))
  t0 := Try.underlying0
  a0 := Try.isAgg0
  z0 := Try.sizeOf0
  v0 := Try.zeroValue0
  t3 := Try.underlying3
  a3 := Try.isAgg3
  z3 := Try.sizeOf3
  v3 := Try.zeroValue3
  t4 := Try.underlying4
  a4 := Try.isAgg4
  z4 := Try.sizeOf4
  v4 := Try.zeroValue4
  t9 := Try.underlying9
  a9 := Try.isAgg9
  z9 := Try.sizeOf9
  v9 := Try.zeroValue9 }
open Go.RowKit in
theorem Try.utf8_RuneCountInString (s : ByteArray) (w : World) (hs : s.size < 9223372036854775807) :
    Calls Try.prog 255 #[.string s] w fun e w' => e = .returned (.int .i64 (Lib.runeCount s)) ∧ ∃ pos, w' = w.iter s pos := Any.utf8_RuneCountInString Try.lays195 s w hs
end Go.Proofs
namespace Go.Proofs.Ytakkhomjpflkbaa.F
open Go.RowKit Go.Proofs.YtakkhomjpflkbaaX Go.Proofs.YtakkhomjpflkbaaW.PrintWords Go.Proofs.YtakkhomjpflkbaaW.PrintLast Go.Proofs.YtakkhomjpflkbaaW.PrintMore
attribute [local go_sem] max2_int min2_int max_two min_two max_three min_three max_four min_four   
attribute [local go_sem high] str_geq str_leq str_gtr
set_option linter.unusedVariables false
set_option linter.unusedSimpArgs false
set_option maxHeartbeats 1000000 in
theorem stands1 (k : Nat) (r c last : Int) (b : Nat) (w : World) (hc : serial_Class.f k r = some c) (hb : w.heap[b]? = some (.cells #[.int .i64 last] 3 (0, 0))) :
    Calls Try.prog 282 #[.int .i32 r, .pointer (some ⟨b, 0, none⟩)] w fun e w' => e = .returned (.bool (mayB c last)) ∧ ∃ n, w' = (w.drewN n).setCell ⟨b, 0, none⟩ (.int .i64 c) := by
  have HC := zA hc
  have h0 : w.cell? ⟨b, 0, none⟩ = some (.int .i64 last) := by simp [World.cell?, hb]
  have hf : w.frozen? ⟨b, 0, none⟩ = false := by simp [World.frozen?, hb]
  clear hc hb
  by_cases c0 : c = 0
  · subst c0
    go_enter Try.func282, Try.ntmps282; go_wp2_with (go_at_call 283; refine (serial_Class.calls k _ _ _ HC.out).mono ?_; rintro e w' ⟨rfl, ⟨nd, rfl⟩⟩); go_ret; exact ⟨by simp [mayB], nd, by simp⟩
  have e0 : (c != 0) = true := bne_iff_ne.2 c0
  by_cases c3 : c = 3
  · subst c3
    clear c0 e0; by_cases l3 : last = 3
    · subst l3
      go_enter Try.func282, Try.ntmps282; go_wp2_with (go_at_call 283; refine (serial_Class.calls k _ _ _ HC.out).mono ?_; rintro e w' ⟨rfl, ⟨nd, rfl⟩⟩); go_ret; exact ⟨by simp [mayB], nd, by simp⟩
    have e1 : (last != 3) = true := bne_iff_ne.2 l3; clear l3; go_enter Try.func282, Try.ntmps282; go_wp2_with (go_at_call 283; refine (serial_Class.calls k _ _ _ HC.out).mono ?_; rintro e w' ⟨rfl, ⟨nd, rfl⟩⟩); go_ret; exact ⟨by simp [mayB, e1], nd, by simp⟩
  have e1 : (c != 3) = true := bne_iff_ne.2 c3
  clear c0 c3
  go_enter Try.func282, Try.ntmps282
  go_wp2_with (go_at_call 283; refine (serial_Class.calls k _ _ _ HC.out).mono ?_; rintro e w' ⟨rfl, ⟨nd, rfl⟩⟩)
  go_ret
  exact ⟨by simp [mayB, e0, e1], nd, by simp⟩
theorem runeCount_pos (s : ByteArray) (h : 0 < s.size) : 1 ≤ Lib.runeCount s := by
  unfold Lib.runeCount
  obtain ⟨n, hn⟩ : ∃ n, s.size = n + 1 := ⟨s.size - 1, by omega⟩
  rw [hn]
  unfold Lib.runeCountFrom
  rw [if_pos h]; omega
theorem runeCount_step {s : ByteArray} {i : Nat} (h : Lib.runeCountFrom s (s.size - i) i + i = Lib.runeCount s) (hp : i < s.size) (ha : (s[i]'hp).toNat < 128) : Lib.runeCountFrom s (s.size - (i + 1)) (i + 1) + (i + 1) = Lib.runeCount s := by
  rw [show s.size - i = (s.size - (i + 1)) + 1 by omega] at h
  have h2 : Lib.runeCountFrom s (s.size - (i + 1) + 1) i = 1 + Lib.runeCountFrom s (s.size - (i + 1)) (i + 1) := by
    rw [Lib.runeCountFrom, if_pos hp, decode_ascii s i hp ha]
  rw [h2] at h
  omega
theorem suffix_last {l : List UInt8} : Lib.hasSuffix l [45] = true ↔ l.getLast? = some 45 := by
  unfold Lib.hasSuffix
  rw [List.isSuffixOf_iff_suffix]
  constructor
  · rintro ⟨t, rfl⟩; simp
  intro h
  rw [List.getLast?_eq_some_iff] at h
  obtain ⟨t, rfl⟩ := h
  exact ⟨t, rfl⟩
theorem runeCount_ascii (s : ByteArray) (h : ∀ i (hi : i < s.size), (s[i]'hi).toNat < 128) : ∀ (d b pos : Nat), s.size - pos = d → pos ≤ s.size → d ≤ b → Lib.runeCountFrom s b pos = d := by
  intro d
  induction d with
  | zero =>
    intro b pos hd hp hb
    exact Lib.runeCountFrom_end s b pos (by omega)
  | succ d ih =>
    intro b pos hd hp hb
    obtain ⟨b, rfl⟩ : ∃ c, b = c + 1 := ⟨b - 1, by omega⟩
    have hlt : pos < s.size := by omega
    unfold Lib.runeCountFrom
    rw [if_pos hlt, decode_ascii s pos hlt (h pos hlt)]
    show 1 + Lib.runeCountFrom s b (pos + 1) = d + 1
    rw [ih b (pos + 1) (by omega) (by omega) (by omega)]
    omega
theorem okL_all (l : List Int) : ∀ last, okL last l = true → ∀ r ∈ l, r < 128 := by
  induction l with
  | nil => intro _ _ r h; cases h
  | cons a l ih =>
    intro last h r hr
    simp only [okL, Bool.and_eq_true] at h
    rcases List.mem_cons.1 hr with rfl | hr
    · apply Classical.byContradiction
      intro hn
      rw [cls_high (by omega), mayB_zero] at h
      exact absurd h.1 (by decide)
    exact ih _ h.2 r hr
theorem okL_size {s : ByteArray} (h : okL 3 (runes s.data.toList) = true) : Lib.runeCount s = s.size := by
  unfold Lib.runeCount
  refine runeCount_ascii s (fun i hi => ?_) s.size s.size 0 (by omega) (by omega) (Nat.le_refl _)
  have := okL_all _ _ h (((s[i]'hi).toNat : Nat) : Int) (List.mem_map.2 ⟨s[i]'hi, ?_, rfl⟩)
  · omega
  rw [List.mem_iff_getElem]
  exact ⟨i, by rw [size_list]; exact hi, rfl⟩
theorem own_keep {k : IntKind} {e base : Nat} {ok : Nat → Prop} {w w1 : World} {v : Value} {xs : List Int} (h : Kd.R (Kd.int k) e w base ok v xs) (hk : ∀ g, v.ownBlock = some g → w1.heap[g]? = w.heap[g]?) : Kd.R (Kd.int k) e w1 base ok v xs := by
  obtain ⟨h0, inner, ho, hr⟩ := h
  refine ⟨h0, inner, ⟨ho.1, ?_⟩, hr⟩
  rcases ho.2 with hn | ⟨g, cap, cur, hv, hb, hg, rest⟩
  · exact .inl hn
  exact .inr ⟨g, cap, cur, hv, hb, (hk g (by rw [hv]; rfl)).trans hg, rest⟩
theorem infoRune : (Try.prog.info? 21).map (fun i => (i.zero, i.size, i.bytes)) = some (some (.int .i32 0), 1, 4) := by kernel_rfl
theorem class_f (r : Int) : serial_Class.f 20 r = some (clsI r) := by
  unfold serial_Class.f clsI
  simp only [serial_Class.j0, serial_Class.j1]
  (repeat' split) <;> simp_all <;> omega
theorem folded_f {r : Int} (h0 : 0 ≤ r) (h : r < 128) : serial_folded.f r = some (upI r) := by
  unfold serial_folded.f upI wrap32
  (repeat' split) <;> simp_all <;> omega
theorem stands_made (w : World) : Calls Try.prog 257 #[] w fun e w' => e = .returned (.func (.func 282) #[] #[.pointer (some ⟨w.heap.size, 0, none⟩)]) ∧ w' = w.alloc (.cells #[.int .i64 3] 3) := by
  have hmf : ∀ (fn : Fn) (first cap : Array Value) (w : World), (Instr.makeFunc fn first cap).run Try.prog w = .ok (.func fn first cap) w := fun _ _ _ _ => rfl
  go_enter Try.func257, Try.ntmps257
  go_wp2
  go_ret
  exact ⟨rfl, rfl⟩
def serial_Fold.f (s : ByteArray) : Option (ByteArray × Int) := if s.size < 9223372036854775807 then some (foldS s) else none
set_option maxHeartbeats 4000000 in
set_option maxRecDepth 100000 in
theorem serial_Fold.calls (s : ByteArray) (r1 : ByteArray) (r2 : Int) (w : World) (h : serial_Fold.f s = some (r1, r2)) :
    Calls Try.prog 215 #[.string s] w fun e w' => e = .returned (.tuple #[.string r1, .int .i64 r2]) ∧ Below w.heap.size w w' := by
  unfold serial_Fold.f at h
  by_cases hs : s.size < 9223372036854775807
  · rw [if_pos hs] at h
    have H := zA (zKq h); have HS := zA hs; clear h; have hrc := Lib.runeCount_le s; by_cases hbad : Lib.runeCount s < 1 ∨ 16 < Lib.runeCount s
    · have hr : foldS s = (⟨#[]⟩, 9) := by
        unfold foldS
        by_cases hok : okL 3 (runes s.data.toList) = false
        · rw [if_pos (.inr (.inr (.inr hok)))]
        rcases hbad with hb | hb
        · by_cases h0 : s.size < 1
          · rw [if_pos (.inl h0)]
          exact absurd (runeCount_pos s (by omega)) (by omega)
        rw [if_pos (.inr (.inl (by omega)))]
      have hH := H.out; rw [hr] at hH; simp only [zOq] at hH; obtain ⟨rfl, rfl⟩ := hH; rcases hbad with hb | hb
      · have t1 : decide ((Lib.runeCount s : Int) < 1) = true := zFq (by omega)
        clear hb hs; go_enter Try.func215, Try.ntmps215; go_wp2_with (first
          | (go_at_call 255; refine (Try.utf8_RuneCountInString _ _ (by have := HS.out; omega)).mono ?_; rintro e w1 ⟨rfl, ⟨pos, rfl⟩⟩))
        go_ret2; exact ⟨rfl, zD (Below.refl _ _) _⟩
      have t1 : decide ((Lib.runeCount s : Int) < 1) = false := zGq (by omega); have t2 : decide (16 < (Lib.runeCount s : Int)) = true := zFq (by omega); clear hb hs; go_enter Try.func215, Try.ntmps215; go_wp2_with (first
        | (go_at_call 255; refine (Try.utf8_RuneCountInString _ _ (by have := HS.out; omega)).mono ?_; rintro e w1 ⟨rfl, ⟨pos, rfl⟩⟩))
      go_ret2; exact ⟨rfl, zD (Below.refl _ _) _⟩
    have t1 : decide ((Lib.runeCount s : Int) < 1) = false := zGq (by omega); have t2 : decide (16 < (Lib.runeCount s : Int)) = false := zGq (by omega); by_cases hsuf : Lib.hasSuffix s.data.toList [45] = true
    · have hr : foldS s = (⟨#[]⟩, 9) := by
        unfold foldS
        rw [if_pos (.inr (.inr (.inl (suffix_last.1 hsuf))))]
      have hH := H.out; rw [hr] at hH; simp only [zOq] at hH; obtain ⟨rfl, rfl⟩ := hH; have HSf := zA hsuf; clear hs hbad hsuf hr hrc; go_enter Try.func215, Try.ntmps215; go_wp2_with (first
        | (go_at_call 255; refine (Try.utf8_RuneCountInString _ _ (by have := HS.out; omega)).mono ?_; rintro e w1 ⟨rfl, ⟨pos, rfl⟩⟩)
        | (go_at_call 256; refine (Try.strings_HasSuffix _ _ _ (by have := HS.out; omega)).mono ?_; rintro e w2 ⟨rfl, rfl⟩; rw [show Lib.hasSuffix s.data.toList (ByteArray.mk #[45]).data.toList = true from HSf.out]))
      go_ret2; exact ⟨rfl, zD (Below.refl _ _) _⟩
    have HSf := zA (Bool.eq_false_iff.2 hsuf); have HN := zA (show 1 ≤ Lib.runeCount s ∧ Lib.runeCount s ≤ 16 by omega); have hmk : ∀ W, (Instr.makeSlice 339 (.int .i64 0) (.int .i64 (Lib.runeCount s : Int))).run Try.prog W = .ok (.slice (some ⟨W.heap.size, 0, none⟩) 0 (Lib.runeCount s)) (W.alloc (.cells (madeCells (Value.int .i32 0).cells (Lib.runeCount s)) 21)) := by
      intro W; obtain ⟨i0, hi, hzz⟩ := Option.map_eq_some_iff.1 infoRune; simp only [zOq] at hzz; have := run_makeSlice (P := Try.prog) W 339 21 i0 (.int .i32 0) Try.underlying339 hi hzz.1 .i64 .i64 0 (Lib.runeCount s) (by omega) (by omega) (by rw [hzz.2.1]; simp; omega) (by rw [hzz.2.2]; omega) (by omega); rw [hzz.2.1] at this; simpa using this
    clear hs hbad hsuf hrc; go_enter Try.func215, Try.ntmps215; go_wp2_with (first
      | (go_at_call 255; refine (Try.utf8_RuneCountInString _ _ (by have := HS.out; omega)).mono ?_; rintro e w1 ⟨rfl, ⟨pos, rfl⟩⟩)
      | (go_at_call 256; refine (Try.strings_HasSuffix _ _ _ (by have := HS.out; omega)).mono ?_; rintro e w2 ⟨rfl, rfl⟩; rw [show Lib.hasSuffix s.data.toList (ByteArray.mk #[45]).data.toList = false from HSf.out])
      | (go_at_call 257; refine (stands_made _).mono ?_; rintro e w2 ⟨rfl, rfl⟩))
    obtain ⟨W0, hW0⟩ : ∃ W0, W0 = w.iter s pos := ⟨_, rfl⟩
    rw [← hW0]; have HB0 := zA (show Below w.heap.size w W0 by rw [hW0]; exact zD (Below.refl _ _) _); clear hW0; clear hmk t1 t2; go_loopw [6] (fun v6 wr => ∃ (i : Nat) (last : Int), i ≤ s.size ∧ Aside0 (Kd.R (Kd.int .i32) 21 wr W0.heap.size (fun k => k ≠ W0.heap.size ∧ k ≠ W0.heap.size + 1 + 1) v6 (((runes s.data.toList).take i).map upI)) ∧ Aside0 (wr.heap[W0.heap.size + 1 + 1]? = some (.stringIter s i)) ∧ Aside0 (wr.heap[W0.heap.size]? = some (.cells #[.int .i64 last] 3 (0, 0))) ∧ Aside0 (okL 3 (runes s.data.toList) = okL last ((runes s.data.toList).drop i)) ∧ Aside0 (Below W0.heap.size W0 wr) ∧ Aside0 (Lib.runeCountFrom s (s.size - i) i + i = Lib.runeCount s)) (fun _ wr => s.size - wr.iterPos (W0.heap.size + 1 + 1))
    case atStart =>
      refine ⟨0, 3, by omega, ⟨?_⟩, ⟨?_⟩, ⟨?_⟩, ⟨rfl⟩, ⟨?_⟩, ⟨rfl⟩⟩
      · refine own_keep (w := (W0.alloc (.cells #[.int .i64 3] 3)).alloc (.cells (madeCells (Value.int .i32 0).cells (Lib.runeCount s)) 21)) ⟨fun k hk => ?_, [], ?_, Reps.none _ _⟩ (fun g hg => ?_)
        · simp only [Value.ownBlock, zNq] at hk
          omega
        · have := World.ownsRow_made (e := 21) (size := (Kd.int .i32).sz) (base := W0.heap.size) (W0.alloc (.cells #[.int .i64 3] 3)) (madeCells (Value.int .i32 0).cells (Lib.runeCount s)) (Lib.runeCount s) (by simp) (by unfold maxLen; have := HN.out; omega) (by rw [size_madeCells]; exact (Nat.mul_one _).symm)
          simpa using this
        simp only [Value.ownBlock, zNq] at hg; subst hg; exact Below.heap_alloc _ _ _ (by simp)
      · have := World.iter_heap ((W0.alloc (.cells #[.int .i64 3] 3)).alloc (.cells (madeCells (Value.int .i32 0).cells (Lib.runeCount s)) 21)) s 0
        have e : ((W0.alloc (.cells #[.int .i64 3] 3)).alloc (.cells (madeCells (Value.int .i32 0).cells (Lib.runeCount s)) 21)).heap.size = W0.heap.size + 1 + 1 := by simp
        rw [e] at this; exact this
      · exact zZ (zZ (blk_new _ _) _) _
      exact zD (zD (zD (Below.refl _ _) _) _) _
    case round =>
      obtain ⟨i, last, hi, HO, HI, HL, HK, HB, HRC⟩ := hrel; have hlt2 : W0.heap.size + 1 + 1 < wr.heap.size := blk_lt HI.out; by_cases hp : i < s.size
      · have hd := runes_drop s i hp
        by_cases ha : (s[i]'hp).toNat < 128
        · obtain ⟨Wn, hWn⟩ : ∃ Wn, Wn = wr.iterAt (W0.heap.size + 1 + 1) s (i + 1) := ⟨_, rfl⟩
          have hnx : ∀ ty, (Instr.next (.pointer (some ⟨W0.heap.size + 1 + 1, 0, none⟩)) true ty).run Try.prog wr = .ok (.tuple #[.bool true, .int .i64 i, .int .i32 (s[i]'hp).toNat]) Wn := fun ty => by rw [hWn]; exact Lib.run_next_ascii_at wr _ s i ty HI.out hp ha
          have HI1 := zA (show Wn.heap[W0.heap.size + 1 + 1]? = some (.stringIter s (i + 1)) by rw [hWn]; exact Lib.iterAt_heap wr _ s i (i + 1) HI.out); have HL1 := zA (show Wn.heap[W0.heap.size]? = some (.cells #[.int .i64 last] 3 (0, 0)) by rw [hWn, Lib.iterAt_other _ _ _ _ _ (by omega)]; exact HL.out); have HB1 := zA (show Below W0.heap.size W0 Wn by rw [hWn]; exact Lib.below_iterAt HB.out (by omega) s (i + 1)); have HO1 := zA (show Kd.R (Kd.int .i32) 21 Wn W0.heap.size (fun k => k ≠ W0.heap.size ∧ k ≠ W0.heap.size + 1 + 1) u6 (((runes s.data.toList).take i).map upI) by rw [hWn]; exact own_keep HO.out (fun g hg => Lib.iterAt_other _ _ _ _ _ (HO.out.1 g hg).2)); clear hWn; obtain ⟨r, hr⟩ : ∃ r : Int, r = ((s[i]'hp).toNat : Int) := ⟨_, rfl⟩
          rw [← hr] at hd hnx; have hr0 : 0 ≤ r ∧ r < 128 := by omega
          have HK2 := zA (HK.out.trans (congrArg (okL last) hd)); have HR := zA hr0; have HT := zA (show (runes s.data.toList).take (i + 1) = (runes s.data.toList).take i ++ [r] by rw [hr]; exact runes_take s i hp); have HP := zA hp; clear hd hr hr0; cases hm : mayB (clsI r) last with
          | false =>
            have hH := H.out; have hf : foldS s = (⟨#[]⟩, 9) := by
              unfold foldS
              rw [if_pos (.inr (.inr (.inr (HK2.out.trans (okL_bad hm)))))]
            rw [hf] at hH; simp only [zOq] at hH; obtain ⟨rfl, rfl⟩ := hH; have HM := zA hm; clear hm hf; go_wp2_with (first
              | (go_at_call 282; refine (stands1 20 r (clsI r) last W0.heap.size _ (class_f _) HL1.out).mono ?_; rintro e w2 ⟨rfl, ⟨nd, rfl⟩⟩; rw [HM.out]))
            go_ret2; exact ⟨rfl, below_then HB0.out HB0.out.size (Below.setCell (zB HB1.out _) (Nat.le_refl _) _)⟩
          | true =>
            have HM := zA hm; clear hm; have HL3 : Aside0 ((((runes s.data.toList).take i).map upI).length ≤ i) := ⟨by simp; omega⟩
            have HSM := zA (show i < 1099511627776 by have := HRC.out; have := HN.out; omega); have HRC2 := zA (show Lib.runeCountFrom s (s.size - (i + 1)) (i + 1) + (i + 1) = Lib.runeCount s from runeCount_step HRC.out hp ha); go_wp2_with (first
              | (go_at_call 282; refine (stands1 20 r (clsI r) last W0.heap.size _ (class_f _) HL1.out).mono ?_; rintro e w2 ⟨rfl, ⟨nd, hw2⟩⟩; rw [HM.out]; have HI2 := zA (show w2.heap[W0.heap.size + 1 + 1]? = some (.stringIter s (i + 1)) by rw [hw2, Below.heap_setCell _ _ _ _ (show W0.heap.size + 1 + 1 ≠ W0.heap.size by omega)]; exact HI1.out); have HL2 := zA (show w2.heap[W0.heap.size]? = some (.cells #[.int .i64 (clsI r)] 3 (0, 0)) by rw [hw2]; exact blk_put (zY HL1.out nd) 0 _ rfl); have HB2 := zA (show Below W0.heap.size W0 w2 by rw [hw2]; exact Below.setCell (zB HB1.out _) (Nat.le_refl _) _); have HO2 := zA (own_keep (w1 := w2) HO1.out (fun g hg => by rw [hw2, Below.heap_setCell _ _ _ _ (HO1.out.1 g hg).1]; rfl)); clear hw2)
              | (go_at_call 258; refine (serial_folded.calls r (upI r) _ (folded_f HR.out.1 HR.out.2)).mono ?_; rintro e w3 ⟨rfl, ⟨nd2, rfl⟩⟩)
              | (at_builtin; refine Kd.R_append (Kd.int .i32) (w0 := W0) W0.heap.size rfl (.tmp 33) (.tmp 36) 339 21 (.int .i32 0) 4 rfl Try.underlying339 infoRune rfl (by decide) (by omega) _ (((runes s.data.toList).take i).map upI) (upI r) [.int .i32 (upI r)] (fun k => k ≠ W0.heap.size ∧ k ≠ W0.heap.size + 1 + 1) (fun _ => False) rfl rfl ?aP (fun _ hk => hk.elim) ?aF ?aO ?aB ?aS ?aL ?_; (case aP => exact rfl); (case aB => exact zB HB2.out _); (case aF => exact (fun k hk => by have h1 := blk_lt HI2.out; have h2 : w2.heap.size ≤ k := hk; omega)); (case aO => exact own_keep HO2.out (fun _ _ => rfl)); (case aS => exact HB2.out.size); (case aL => have := HL3.out; have := HSM.out; omega); intro v1 w4 ho hb hg hat; have HO4 := zA ho; have HB4 := zA hb; have HI4 := zA (blk_grown (zY HI2.out nd2) hg (fun e => (HO2.out.1 _ e.symm).2 rfl)); have HL4 := zA (blk_grown (zY HL2.out nd2) hg (fun e => (HO2.out.1 _ e.symm).1 rfl)); clear ho hb hg hat))
            go_roundw
            case rel =>
              refine ⟨i + 1, clsI r, by have := HP.out; omega, ⟨?_⟩, HI4, HL4, ⟨HK2.out.trans (okL_go HM.out)⟩, HB4, HRC2⟩; have := HO4.out; rw [HT.out, List.map_append]; exact this
            case measure =>
              have h1 : ∀ (W : World) (p : Nat), W.heap[W0.heap.size + 1 + 1]? = some (.stringIter s p) → W.iterPos (W0.heap.size + 1 + 1) = p := fun W p h => by unfold World.iterPos; rw [h]
              rw [h1 _ _ HI4.out, h1 _ _ HI.out]; have := HP.out; omega
        obtain ⟨Wn, hWn⟩ : ∃ Wn, Wn = wr.iterAt (W0.heap.size + 1 + 1) s (i + (Utf8.decode s i).2) := ⟨_, rfl⟩
        have hnx : ∀ ty, (Instr.next (.pointer (some ⟨W0.heap.size + 1 + 1, 0, none⟩)) true ty).run Try.prog wr = .ok (.tuple #[.bool true, .int .i64 i, .int .i32 (Utf8.decode s i).1]) Wn := fun ty => by rw [hWn]; exact Lib.run_next_any_at wr _ s i ty HI.out hp
        have HL1 := zA (show Wn.heap[W0.heap.size]? = some (.cells #[.int .i64 last] 3 (0, 0)) by rw [hWn, Lib.iterAt_other _ _ _ _ _ (by omega)]; exact HL.out); have HB1 := zA (show Below W0.heap.size W0 Wn by rw [hWn]; exact Lib.below_iterAt HB.out (by omega) s _); clear hWn; have hg : s.get! i = s[i]'hp := by simp [ByteArray.get!, hp]; rfl
        have hhi := decode_high' s i (by rw [hg]; exact ha); obtain ⟨r, hr⟩ : ∃ r : Int, r = ((Utf8.decode s i).1 : Int) := ⟨_, rfl⟩
        rw [← hr] at hnx; have hc0 : clsI r = 0 := cls_high (by omega); have hH := H.out; have hf : foldS s = (⟨#[]⟩, 9) := by
          unfold foldS
          exact if_pos (.inr (.inr (.inr (by rw [HK.out, hd]; exact okL_bad (by rw [cls_high (by omega)]; rfl)))))
        rw [hf] at hH; simp only [zOq] at hH; obtain ⟨rfl, rfl⟩ := hH; have HC0 := zA (show serial_Class.f 20 r = some 0 by rw [class_f, hc0]); clear hhi hr hf hd hg hc0; go_wp2_with (first
          | (go_at_call 282; refine (stands1 20 r 0 last W0.heap.size _ HC0.out HL1.out).mono ?_; rintro e w2 ⟨rfl, ⟨nd, rfl⟩⟩; rw [show mayB 0 last = false from mayB_zero]))
        go_ret2; exact ⟨rfl, below_then HB0.out HB0.out.size (Below.setCell (zB HB1.out _) (Nat.le_refl _) _)⟩
      have hnx : ∀ ty, (Instr.next (.pointer (some ⟨W0.heap.size + 1 + 1, 0, none⟩)) true ty).run Try.prog wr = .ok (.tuple #[.bool false]) wr := fun ty => Lib.run_next_end_at wr _ s i ty HI.out hp
      have hi' : i = s.size := by omega
      subst hi'; have hok : okL 3 (runes s.data.toList) = true := by
        rw [HK.out, List.drop_eq_nil_of_le (by rw [runes_length, size_list]; exact Nat.le_refl _)]; rfl
      have hsz := okL_size hok; have hN := HN.out; have hf : foldS s = (⟨((runes s.data.toList).map fun r => UInt8.ofNat (upI r).toNat).toArray⟩, 0) := by
        unfold foldS
        rw [if_neg]; rintro (h | h | h | h)
        · omega
        · omega
        · rw [← suffix_last, HSf.out] at h; cases h
        rw [hok] at h; cases h
      have hH := H.out; rw [hf] at hH; simp only [zOq] at hH; obtain ⟨hH1, rfl⟩ := hH; have hrb : runesBytes ((runes s.data.toList).map upI) = r1 := by
        rw [← hH1, runes_ascii]
        · rw [List.map_map]; rfl
        intro n hn; obtain ⟨m, hm, rfl⟩ := List.mem_map.1 hn; have h1 := okL_all _ _ hok m hm; obtain ⟨b, _, rfl⟩ := List.mem_map.1 hm; unfold upI
        split <;> omega
      have hcv : ∃ A l c, u6 = .slice A l c ∧ (convert 339 9 (.slice A l c)).run Try.prog wr = .ok (.string r1) wr := by
        have hO := HO.out; rw [List.take_of_length_le (by rw [runes_length, size_list]; exact Nat.le_refl _)] at hO; obtain ⟨A, c, rfl⟩ := Kd.R_slice hO; refine ⟨A, _, c, rfl, ?_⟩; obtain ⟨h1, h2, h3⟩ := Kd.R_reads' hO; have hl : 0 < ((runes s.data.toList).map upI).length := by rw [List.length_map, runes_length, size_list]; omega
        obtain ⟨ad, e1, _⟩ := Kd.at_int h3 (0 : Int) (by omega) (by omega); subst e1; have := run_convert_runes (P := Try.prog) wr 339 9 21 ad ((runes s.data.toList).map upI).length c ((runes s.data.toList).map upI) (Nat.le_refl _) Try.underlying339 Try.underlying21 Try.underlying9 (fun j hj => by
          obtain ⟨ad2, e2, hx⟩ := Kd.at_int h3 (j : Int) (by omega) (by omega); cases e2
          rw [Int.toNat_natCast] at hx; rw [hx]; rfl)
        rw [List.take_length, hrb] at this; exact this
      obtain ⟨A, l, c, rfl, hcv⟩ := hcv; have HCV := zA hcv; clear hf hrb hH1 hok hsz hN hcv; have hcv2 := HCV.out; go_wp2; go_ret2; exact ⟨rfl, below_then HB0.out HB0.out.size HB.out⟩
  rw [if_neg hs] at h; cases h
def serial_Check.f (a0 : ByteArray) : Option (Int) := (serial_Fold.f a0).bind fun bt101 => (if bt101.2 = 0 then (if bt101.1.toList = a0.toList then (some 0) else (some 9)) else (some 9))
set_option maxHeartbeats 8000000 in
set_option maxRecDepth 100000 in
theorem serial_Check.calls (a0 : ByteArray) (r : Int) (w : World) (h : serial_Check.f a0 = some r) :
    Calls Try.prog 137 #[.string a0] w fun e w' => e = .returned (.int .i64 r) ∧ Below w.heap.size w w' := by
  have HB := zA (Below.refl w.heap.size w)
  have H : ((serial_Fold.f a0).bind fun bt101 => (if bt101.2 = 0 then (if bt101.1.toList = a0.toList then (some 0) else (some 9)) else (some 9))) = some r := h
  clear h
  replace H := Option.bind_eq_some_iff.mp H
  obtain ⟨⟨t101, t102⟩, A20, H⟩ := H
  replace H : (if t102 = 0 then (if t101.toList = a0.toList then (some 0) else (some 9)) else (some 9)) = some r := H
  have A2 := zA A20
  clear A20
  by_cases c3 : t102 = 0
  · rw [if_pos c3] at H
    have c3b0 : (t102 == 0) = true := beq_iff_eq.mpr c3; have c3b1 : (t102 != 0) = false := bne_eq_false_iff_eq.mpr c3; clear c3; by_cases c4 : t101.toList = a0.toList
    · rw [if_pos c4] at H
      have c4b0 : (t101.toList == a0.toList) = true := beq_iff_eq.mpr c4; have c4b1 : (t101.toList != a0.toList) = false := bne_eq_false_iff_eq.mpr c4; clear c4; obtain rfl := zKq H; go_enter Try.func137, Try.ntmps137; go_wp2_with (first | ((with_reducible refine zJq (f := 215) rfl ?_); refine goesL_ (some 7) rfl rfl Try.func215 (by kernel_rfl) rfl #[.string a0] rfl (by (try simp only [zR, zS, zT]); first | done | rfl | (simp only [zP, zQ]; rfl)) ?_; (with_reducible refine (serial_Fold.calls a0 t101 t102 _ A2.out).mono ?_); rintro e w5 ⟨rfl, hb⟩; refine ⟨_, rfl, ?_⟩; have n0_ := zA (zV qB hb); clear HB; have HB := n0_; clear n0_; (try clear hb); (try clear hb2); (try clear hk); (try clear hi))); go_ret; exact ⟨qE, qB⟩
    rw [if_neg c4] at H; have c4b0 : (t101.toList == a0.toList) = false := beq_eq_false_iff_ne.mpr c4; have c4b1 : (t101.toList != a0.toList) = true := bne_iff_ne.mpr c4; obtain rfl := zKq H; go_enter Try.func137, Try.ntmps137; go_wp2_with (first | ((with_reducible refine zJq (f := 215) rfl ?_); refine goesL_ (some 7) rfl rfl Try.func215 (by kernel_rfl) rfl #[.string a0] rfl (by (try simp only [zR, zS, zT]); first | done | rfl | (simp only [zP, zQ]; rfl)) ?_; (with_reducible refine (serial_Fold.calls a0 t101 t102 _ A2.out).mono ?_); rintro e w6 ⟨rfl, hb⟩; refine ⟨_, rfl, ?_⟩; have n0_ := zA (zV qB hb); clear HB; have HB := n0_; clear n0_; (try clear hb); (try clear hb2); (try clear hk); (try clear hi))); go_ret; exact ⟨qE, qB⟩
  rw [if_neg c3] at H
  have c3b0 : (t102 == 0) = false := beq_eq_false_iff_ne.mpr c3
  have c3b1 : (t102 != 0) = true := bne_iff_ne.mpr c3
  obtain rfl := zKq H
  go_enter Try.func137, Try.ntmps137
  go_wp2_with (first | ((with_reducible refine zJq (f := 215) rfl ?_); refine goesL_ (some 7) rfl rfl Try.func215 (by kernel_rfl) rfl #[.string a0] rfl (by (try simp only [zR, zS, zT]); first | done | rfl | (simp only [zP, zQ]; rfl)) ?_; (with_reducible refine (serial_Fold.calls a0 t101 t102 _ A2.out).mono ?_); rintro e w7 ⟨rfl, hb⟩; refine ⟨_, rfl, ?_⟩; have n0_ := zA (zV qB hb); clear HB; have HB := n0_; clear n0_; (try clear hb); (try clear hb2); (try clear hk); (try clear hi)))
  go_ret
  exact ⟨qE, qB⟩
def serial_Row.l0 : Nat → List ByteArray → List ByteArray → Int → Int → Option (Int)
  | 0, _, _, _, _ => none
  | k + 1, x0, x6, x7, x8 => if x8 < x7 then (if 0 ≤ x8 then (if x8 < (x6.length : Int) then ((serial_Check.f (rdOf ByteArray.empty x6 x8)).bind fun t102 => (if t102 = 0 then (if x8 > 0 then (if 0 ≤ (wrap64 (x8 - 1)) then (if (wrap64 (x8 - 1)) < (x0.length : Int) then (if ((Op.bytesLess ((rdOf ByteArray.empty x0 (wrap64 (x8 - 1))).toList) ((rdOf ByteArray.empty x6 x8).toList)) = true) then (serial_Row.l0 k x0 x6 x7 (wrap64 (x8 + 1))) else (some 32)) else (none)) else (none)) else (serial_Row.l0 k x0 x6 x7 (wrap64 (x8 + 1)))) else (some t102))) else (none)) else (none)) else (some 0)
def serial_Row.f (k : Nat) (l0 : List ByteArray) : Option (Int) := serial_Row.l0 k l0 l0 (l0.length : Int) 0
theorem serial_Row.mono_l : ∀ k, (∀ y0 y1 y2 y3, LeO (serial_Row.l0 k y0 y1 y2 y3) (serial_Row.l0 (k + 1) y0 y1 y2 y3))
  | 0 => fun _ _ _ _ r h => by simp [serial_Row.l0] at h
  | k + 1 => by
    have ih0 := serial_Row.mono_l k
    intro y0 y1 y2 y3
    unfold serial_Row.l0
    repeat' first
    | (with_reducible exact ih0 _ _ _ _)
    | (with_reducible exact LeO.refl _)
    | (with_reducible exact LeO.none _)
    | (with_reducible refine LeO.ite ?_ ?_)
    | (with_reducible refine LeO.bind ?_ (fun _ => ?_))
    | exact ih0 _ _ _ _
    | exact LeO.none _
    | refine LeO.ite ?_ ?_
    | refine LeO.bind ?_ (fun _ => ?_)
theorem serial_Row.mono : ∀ a0 k, LeO (serial_Row.f k a0) (serial_Row.f (k + 1) a0) := by
  intro a0 k
  have ih0 := serial_Row.mono_l k
  unfold serial_Row.f
  repeat' first
      | (with_reducible exact ih0 _ _ _ _)
      | (with_reducible exact LeO.refl _)
      | (with_reducible exact LeO.none _)
      | (with_reducible refine LeO.ite ?_ ?_)
      | (with_reducible refine LeO.bind ?_ (fun _ => ?_))
      | exact ih0 _ _ _ _
      | exact LeO.none _
      | refine LeO.ite ?_ ?_
      | refine LeO.bind ?_ (fun _ => ?_)
set_option maxHeartbeats 8000000 in
set_option maxRecDepth 100000 in
theorem serial_Row.calls (k : Nat) (A0 : Option Addr) (c0 : Nat) (l0 : List ByteArray) (r : Int) (w : World) (hr0 : Kd.C Kd.string w A0 l0.length l0) (hc0 : l0.length ≤ c0) (h : serial_Row.f k l0 = some r) :
    Calls Try.prog 161 #[.slice A0 l0.length c0] w fun e w' => e = .returned (.int .i64 r) ∧ Below w.heap.size w w' := by
  have HR0 := zA hr0
  have HC0 := zA hc0
  clear hr0 hc0
  have HB := zA (Below.refl w.heap.size w)
  have H : (serial_Row.l0 k l0 l0 (l0.length : Int) 0) = some r := h
  clear h
  have H' := zA H
  clear H
  go_enter Try.func161, Try.ntmps161
  go_wp2
  go_loopg [8] k (fun kq v8 w' => ∃ (x8_1 : Int), v8 = .int .i64 x8_1 ∧ Aside0 (serial_Row.l0 kq l0 l0 (l0.length : Int) x8_1 = some r) ∧ Aside0 (kq ≤ k) ∧ Aside0 (Below w.heap.size w w'))
  case atStart => exact ⟨(0), (by first | rfl | (simp; done) | (simp [*]; done)), H', ⟨Nat.le_refl _⟩, ⟨qB⟩⟩
  case round =>
    clear H'; try clear c1
    obtain ⟨x8_1, rfl, HA, HK1, HB⟩ := hrel; cases gk with
    | zero => exact absurd HA.out (by simp [serial_Row.l0])
    | succ k1 =>
      have H := HA.out; clear HA; simp only [serial_Row.l0] at H; by_cases c2 : x8_1 < (l0.length : Int)
      · rw [if_pos c2] at H
        have c2b0 : decide (x8_1 < (l0.length : Int)) = true := zFq c2; clear c2; by_cases c3 : 0 ≤ x8_1
        · rw [if_pos c3] at H
          have c3b0 : decide (0 ≤ x8_1) = true := zFq c3; clear c3; by_cases c4 : x8_1 < (l0.length : Int)
          · rw [if_pos c4] at H
            have c4b0 : decide (x8_1 < (l0.length : Int)) = true := zFq c4; clear c4; replace H := Option.bind_eq_some_iff.mp H; obtain ⟨t102, A50, H⟩ := H; replace H : (if t102 = 0 then (if x8_1 > 0 then (if 0 ≤ (wrap64 (x8_1 - 1)) then (if (wrap64 (x8_1 - 1)) < (l0.length : Int) then (if ((Op.bytesLess ((rdOf ByteArray.empty l0 (wrap64 (x8_1 - 1))).toList) ((rdOf ByteArray.empty l0 x8_1).toList)) = true) then (serial_Row.l0 k1 l0 l0 (l0.length : Int) (wrap64 (x8_1 + 1))) else (some 32)) else (none)) else (none)) else (serial_Row.l0 k1 l0 l0 (l0.length : Int) (wrap64 (x8_1 + 1)))) else (some t102)) = some r := H; have A5 := zA A50; clear A50; by_cases c6 : t102 = 0
            · rw [if_pos c6] at H
              have c6b0 : (t102 == 0) = true := beq_iff_eq.mpr c6; have c6b1 : (t102 != 0) = false := bne_eq_false_iff_eq.mpr c6; clear c6; by_cases c7 : x8_1 > 0
              · rw [if_pos c7] at H
                have c7b0 : decide (0 < x8_1) = true := zFq c7; clear c7; obtain ⟨ji8, hji8⟩ : ∃ j_ : Int, (wrap64 (x8_1 - 1)) = j_ := ⟨_, rfl⟩
                replace H : (if 0 ≤ (ji8) then (if (ji8) < (l0.length : Int) then (if ((Op.bytesLess ((rdOf ByteArray.empty l0 (ji8)).toList) ((rdOf ByteArray.empty l0 x8_1).toList)) = true) then (serial_Row.l0 k1 l0 l0 (l0.length : Int) (wrap64 (x8_1 + 1))) else (some 32)) else (none)) else (none)) = some r := by first | (rw [hji8] at H; exact H) | (simp only [hji8] at H ⊢; exact H)
                (try rw [hji8] at A5)
                have hji8w : (IntKind.i64.wrap (x8_1 - 1)) = ji8 := (i64_w _).trans hji8; by_cases c9 : 0 ≤ (ji8)
                · rw [if_pos c9] at H
                  have c9b0 : decide (0 ≤ (ji8)) = true := zFq c9; clear c9; by_cases c10 : (ji8) < (l0.length : Int)
                  · rw [if_pos c10] at H
                    have c10b0 : decide ((ji8) < (l0.length : Int)) = true := zFq c10; clear c10; by_cases c11 : ((Op.bytesLess ((rdOf ByteArray.empty l0 (ji8)).toList) ((rdOf ByteArray.empty l0 x8_1).toList)) = true)
                    · rw [if_pos c11] at H
                      have c11b0 : (Op.bytesLess ((rdOf ByteArray.empty l0 (ji8)).toList) ((rdOf ByteArray.empty l0 x8_1).toList)) = true := c11; clear c11; have H' := zA H; clear H; have p101 : 0 ≤ (x8_1 : Int) := of_decide_eq_true qA; have q101 : x8_1 < (l0.length : Int) := of_decide_eq_true qA; obtain ⟨ad101, e101, hx101_0⟩ := Kd.at_string HR0.out x8_1 p101 q101; cases e101
                      replace hx101_0 := (HB.out.cell (zCq w _ hx101_0)).trans hx101_0; replace p101 := eq_true p101; replace q101 := eq_true q101; go_wp2_with (first | ((with_reducible refine zJq (f := 137) rfl ?_); refine goesL_ (some 14) rfl rfl Try.func137 (by kernel_rfl) rfl #[.string (rdOf ByteArray.empty l0 x8_1)] rfl (by (try simp only [zR, zS, zT]); first | done | rfl | (simp only [zP, zQ]; rfl)) ?_; (with_reducible refine (serial_Check.calls (rdOf ByteArray.empty l0 x8_1) t102 _ A5.out).mono ?_); rintro e w12 ⟨rfl, hb⟩; refine ⟨_, rfl, ?_⟩; have n0_ := zA (zV qB hb); clear HB; have HB := n0_; clear n0_; (try clear hb); (try clear hb2); (try clear hk); (try clear hi); have p103 : 0 ≤ ((ji8) : Int) := of_decide_eq_true qA; have q103 : (ji8) < (l0.length : Int) := of_decide_eq_true qA; obtain ⟨ad103, e103, hx103_0⟩ := Kd.at_string HR0.out (ji8) p103 q103; obtain rfl : ad101 = ad103 := (by injection e103); replace hx103_0 := (HB.out.cell (zCq w _ hx103_0)).trans hx103_0; replace p103 := eq_true p103; replace q103 := eq_true q103)); go_roundg k1
                      case measure => have := HK1.out; omega
                      case rel => exact ⟨(wrap64 (x8_1 + 1)), (by first | rfl | (simp; done) | (simp [*]; done)), H', ⟨by have := HK1.out; omega⟩, ⟨qB⟩⟩
                    rw [if_neg c11] at H; have c11b0 : (Op.bytesLess ((rdOf ByteArray.empty l0 (ji8)).toList) ((rdOf ByteArray.empty l0 x8_1).toList)) = false := by simpa using c11
                    clear c11; obtain rfl := zKq H; have p101 : 0 ≤ (x8_1 : Int) := of_decide_eq_true qA; have q101 : x8_1 < (l0.length : Int) := of_decide_eq_true qA; obtain ⟨ad101, e101, hx101_0⟩ := Kd.at_string HR0.out x8_1 p101 q101; cases e101
                    replace hx101_0 := (HB.out.cell (zCq w _ hx101_0)).trans hx101_0; replace p101 := eq_true p101; replace q101 := eq_true q101; go_wp2_with (first | ((with_reducible refine zJq (f := 137) rfl ?_); refine goesL_ (some 14) rfl rfl Try.func137 (by kernel_rfl) rfl #[.string (rdOf ByteArray.empty l0 x8_1)] rfl (by (try simp only [zR, zS, zT]); first | done | rfl | (simp only [zP, zQ]; rfl)) ?_; (with_reducible refine (serial_Check.calls (rdOf ByteArray.empty l0 x8_1) t102 _ A5.out).mono ?_); rintro e w13 ⟨rfl, hb⟩; refine ⟨_, rfl, ?_⟩; have n0_ := zA (zV qB hb); clear HB; have HB := n0_; clear n0_; (try clear hb); (try clear hb2); (try clear hk); (try clear hi); have p103 : 0 ≤ ((ji8) : Int) := of_decide_eq_true qA; have q103 : (ji8) < (l0.length : Int) := of_decide_eq_true qA; obtain ⟨ad103, e103, hx103_0⟩ := Kd.at_string HR0.out (ji8) p103 q103; obtain rfl : ad101 = ad103 := (by injection e103); replace hx103_0 := (HB.out.cell (zCq w _ hx103_0)).trans hx103_0; replace p103 := eq_true p103; replace q103 := eq_true q103)); go_ret; exact ⟨by first | rfl | (simp [errW_none, errW_some] <;> rfl) | (simp only [← hji8]; first | rfl | (simp [errW_none, errW_some] <;> rfl)) | (simp [*, errW_none, errW_some] <;> rfl), qB⟩
                  rw [if_neg c10] at H; exact absurd H (by simp)
                rw [if_neg c9] at H; exact absurd H (by simp)
              rw [if_neg c7] at H; have c7b0 : decide (0 < x8_1) = false := zGq c7; clear c7; have H' := zA H; clear H; have p101 : 0 ≤ (x8_1 : Int) := of_decide_eq_true qA; have q101 : x8_1 < (l0.length : Int) := of_decide_eq_true qA; obtain ⟨ad101, e101, hx101_0⟩ := Kd.at_string HR0.out x8_1 p101 q101; cases e101
              replace hx101_0 := (HB.out.cell (zCq w _ hx101_0)).trans hx101_0; replace p101 := eq_true p101; replace q101 := eq_true q101; go_wp2_with (first | ((with_reducible refine zJq (f := 137) rfl ?_); refine goesL_ (some 14) rfl rfl Try.func137 (by kernel_rfl) rfl #[.string (rdOf ByteArray.empty l0 x8_1)] rfl (by (try simp only [zR, zS, zT]); first | done | rfl | (simp only [zP, zQ]; rfl)) ?_; (with_reducible refine (serial_Check.calls (rdOf ByteArray.empty l0 x8_1) t102 _ A5.out).mono ?_); rintro e w14 ⟨rfl, hb⟩; refine ⟨_, rfl, ?_⟩; have n0_ := zA (zV qB hb); clear HB; have HB := n0_; clear n0_; (try clear hb); (try clear hb2); (try clear hk); (try clear hi))); go_roundg k1
              case measure => have := HK1.out; omega
              case rel => exact ⟨(wrap64 (x8_1 + 1)), (by first | rfl | (simp; done) | (simp [*]; done)), H', ⟨by have := HK1.out; omega⟩, ⟨qB⟩⟩
            rw [if_neg c6] at H; have c6b0 : (t102 == 0) = false := beq_eq_false_iff_ne.mpr c6; have c6b1 : (t102 != 0) = true := bne_iff_ne.mpr c6; obtain rfl := zKq H; have p101 : 0 ≤ (x8_1 : Int) := of_decide_eq_true qA; have q101 : x8_1 < (l0.length : Int) := of_decide_eq_true qA; obtain ⟨ad101, e101, hx101_0⟩ := Kd.at_string HR0.out x8_1 p101 q101; cases e101
            replace hx101_0 := (HB.out.cell (zCq w _ hx101_0)).trans hx101_0; replace p101 := eq_true p101; replace q101 := eq_true q101; go_wp2_with (first | ((with_reducible refine zJq (f := 137) rfl ?_); refine goesL_ (some 14) rfl rfl Try.func137 (by kernel_rfl) rfl #[.string (rdOf ByteArray.empty l0 x8_1)] rfl (by (try simp only [zR, zS, zT]); first | done | rfl | (simp only [zP, zQ]; rfl)) ?_; (with_reducible refine (serial_Check.calls (rdOf ByteArray.empty l0 x8_1) t102 _ A5.out).mono ?_); rintro e w15 ⟨rfl, hb⟩; refine ⟨_, rfl, ?_⟩; have n0_ := zA (zV qB hb); clear HB; have HB := n0_; clear n0_; (try clear hb); (try clear hb2); (try clear hk); (try clear hi))); go_ret; exact ⟨qE, qB⟩
          rw [if_neg c4] at H; exact absurd H (by simp)
        rw [if_neg c3] at H; exact absurd H (by simp)
      rw [if_neg c2] at H; have c2b0 : decide (x8_1 < (l0.length : Int)) = false := zGq c2; clear c2; obtain rfl := zKq H; go_wp2; go_ret; exact ⟨qE, qB⟩
def cents_In.f (a0 : Int) : Option (Bool) := if a0 ≥ (-1000000000000) then (some (decide (a0 ≤ 1000000000000))) else (some false)
set_option maxHeartbeats 8000000 in
set_option maxRecDepth 100000 in
theorem cents_In.calls (a0 : Int) (r : Bool) (w : World) (h : cents_In.f a0 = some r) :
    Calls Try.prog 285 #[.int .i64 a0] w fun e w' => e = .returned (.bool r) ∧ Drawn0 w w' := by
  have H : (if a0 ≥ (-1000000000000) then (some (decide (a0 ≤ 1000000000000))) else (some false)) = some r := h
  clear h
  by_cases c2 : a0 ≥ (-1000000000000)
  · rw [if_pos c2] at H
    have c2b0 : decide ((-1000000000000) ≤ a0) = true := zFq c2; clear c2; obtain rfl := zKq H; go_enter Try.func285, Try.ntmps285; go_wp2; go_ret; exact ⟨by first | rfl | (simp; done) | (simp [*]; done), by repeat (first | exact Drawn0.refl _ | apply Drawn0.step)⟩
  rw [if_neg c2] at H
  have c2b0 : decide ((-1000000000000) ≤ a0) = false := zGq c2
  clear c2
  obtain rfl := zKq H
  go_enter Try.func285, Try.ntmps285
  go_wp2
  go_ret
  exact ⟨by first | rfl | (simp; done) | (simp [*]; done), by repeat (first | exact Drawn0.refl _ | apply Drawn0.step)⟩
def line_paid.f (a0 : Int) : Option (Bool) := if a0 ≥ 0 then ((cents_In.f a0).bind fun t101 => (some t101)) else (some false)
set_option maxHeartbeats 8000000 in
set_option maxRecDepth 100000 in
theorem line_paid.calls (a0 : Int) (r : Bool) (w : World) (h : line_paid.f a0 = some r) :
    Calls Try.prog 284 #[.int .i64 a0] w fun e w' => e = .returned (.bool r) ∧ Drawn0 w w' := by
  have H : (if a0 ≥ 0 then ((cents_In.f a0).bind fun t101 => (some t101)) else (some false)) = some r := h
  clear h
  by_cases c2 : a0 ≥ 0
  · rw [if_pos c2] at H
    have c2b0 : decide (0 ≤ a0) = true := zFq c2; clear c2; replace H := Option.bind_eq_some_iff.mp H; obtain ⟨t101, A30, H⟩ := H; replace H : (some t101) = some r := H; have A3 := zA A30; clear A30; obtain rfl := zKq H; go_enter Try.func284, Try.ntmps284; go_wp2_with (first | (go_at_call 285; (with_reducible refine (cents_In.calls a0 t101 _ A3.out).mono ?_); rintro e w' ⟨rfl, ⟨nd, rfl⟩⟩)); go_ret; exact ⟨by first | rfl | (simp; done) | (simp [*]; done), by repeat (first | exact Drawn0.refl _ | apply Drawn0.step)⟩
  rw [if_neg c2] at H
  have c2b0 : decide (0 ≤ a0) = false := zGq c2
  clear c2
  obtain rfl := zKq H
  go_enter Try.func284, Try.ntmps284
  go_wp2
  go_ret
  exact ⟨by first | rfl | (simp; done) | (simp [*]; done), by repeat (first | exact Drawn0.refl _ | apply Drawn0.step)⟩
def line_price_may.f (a0_0 : Int) (a0_1 : Int) (a0_2 : Int) (a0_3 : Int) (l0_4 : List ByteArray) : Option (Bool) := (line_paid.f a0_1).bind fun t102 => (if t102 = true then ((line_paid.f a0_2).bind fun t103 => (if t103 = true then ((line_paid.f a0_3).bind fun t104 => (if t104 = true then (if a0_2 ≤ a0_1 then ((cents_In.f (wrap64 (a0_2 + a0_3))).bind fun t105 => (some t105)) else (some false)) else (some false))) else (some false))) else (some false))
set_option maxHeartbeats 8000000 in
set_option maxRecDepth 100000 in
theorem line_price_may.calls (a0_0 : Int) (a0_1 : Int) (a0_2 : Int) (a0_3 : Int) (A0_4 : Option Addr) (c0_4 : Nat) (l0_4 : List ByteArray) (r : Bool) (w : World) (hr0_4 : Kd.C Kd.string w A0_4 l0_4.length l0_4) (hc0_4 : l0_4.length ≤ c0_4) (h : line_price_may.f a0_0 a0_1 a0_2 a0_3 l0_4 = some r) :
    Calls Try.prog 259 #[.agg #[.int .i64 a0_0, .int .i64 a0_1, .int .i64 a0_2, .int .i64 a0_3, .slice A0_4 l0_4.length c0_4]] w fun e w' => e = .returned (.bool r) ∧ Below w.heap.size w w' := by
  have hu341 := Try.underlying341
  have HR0_4 := zA hr0_4
  have HC0_4 := zA hc0_4
  clear hr0_4 hc0_4
  have HB := zA (Below.refl w.heap.size w)
  have H : ((line_paid.f a0_1).bind fun t102 => (if t102 = true then ((line_paid.f a0_2).bind fun t103 => (if t103 = true then ((line_paid.f a0_3).bind fun t104 => (if t104 = true then (if a0_2 ≤ a0_1 then ((cents_In.f (wrap64 (a0_2 + a0_3))).bind fun t105 => (some t105)) else (some false)) else (some false))) else (some false))) else (some false))) = some r := h
  clear h
  replace H := Option.bind_eq_some_iff.mp H
  obtain ⟨t102, A20, H⟩ := H
  replace H : (if t102 = true then ((line_paid.f a0_2).bind fun t103 => (if t103 = true then ((line_paid.f a0_3).bind fun t104 => (if t104 = true then (if a0_2 ≤ a0_1 then ((cents_In.f (wrap64 (a0_2 + a0_3))).bind fun t105 => (some t105)) else (some false)) else (some false))) else (some false))) else (some false)) = some r := H
  have A2 := zA A20
  clear A20
  by_cases c3 : t102 = true
  · subst c3
    have H1 : ((line_paid.f a0_2).bind fun t103 => (if t103 = true then ((line_paid.f a0_3).bind fun t104 => (if t104 = true then (if a0_2 ≤ a0_1 then ((cents_In.f (wrap64 (a0_2 + a0_3))).bind fun t105 => (some t105)) else (some false)) else (some false))) else (some false))) = some r := by first | (rw [if_pos rfl] at H; exact H) | rfl
    clear H; have H := H1; clear H1; replace H := Option.bind_eq_some_iff.mp H; obtain ⟨t103, A40, H⟩ := H; replace H : (if t103 = true then ((line_paid.f a0_3).bind fun t104 => (if t104 = true then (if a0_2 ≤ a0_1 then ((cents_In.f (wrap64 (a0_2 + a0_3))).bind fun t105 => (some t105)) else (some false)) else (some false))) else (some false)) = some r := H; have A4 := zA A40; clear A40; by_cases c5 : t103 = true
    · subst c5
      have H1 : ((line_paid.f a0_3).bind fun t104 => (if t104 = true then (if a0_2 ≤ a0_1 then ((cents_In.f (wrap64 (a0_2 + a0_3))).bind fun t105 => (some t105)) else (some false)) else (some false))) = some r := by first | (rw [if_pos rfl] at H; exact H) | rfl
      clear H; have H := H1; clear H1; replace H := Option.bind_eq_some_iff.mp H; obtain ⟨t104, A60, H⟩ := H; replace H : (if t104 = true then (if a0_2 ≤ a0_1 then ((cents_In.f (wrap64 (a0_2 + a0_3))).bind fun t105 => (some t105)) else (some false)) else (some false)) = some r := H; have A6 := zA A60; clear A60; by_cases c7 : t104 = true
      · subst c7
        have H1 : (if a0_2 ≤ a0_1 then ((cents_In.f (wrap64 (a0_2 + a0_3))).bind fun t105 => (some t105)) else (some false)) = some r := by first | (rw [if_pos rfl] at H; exact H) | rfl
        clear H; have H := H1; clear H1; by_cases c8 : a0_2 ≤ a0_1
        · rw [if_pos c8] at H
          have c8b0 : decide (a0_2 ≤ a0_1) = true := zFq c8; clear c8; replace H := Option.bind_eq_some_iff.mp H; obtain ⟨t105, A90, H⟩ := H; replace H : (some t105) = some r := H; have A9 := zA A90; clear A90; obtain rfl := zKq H; go_enter Try.func259, Try.ntmps259; go_wp2_with (first | ((with_reducible refine gate_dst (N := 1) rfl ?_); refine box_event qr (N := 1) qr (cs := #[.int .i64 a0_0, .int .i64 a0_1, .int .i64 a0_2, .int .i64 a0_3, .slice A0_4 l0_4.length c0_4]) (t := 341) qg ?_; intro gb101 hg w10 hbox hb; have n0_ := zA (zV qB hb); have n1_ := zA (hbox); have n2_ := zA ((qS : w.heap.size ≤ gb101)); have n3_ := zA ((qS : w.heap.size ≤ gb101)); clear HB; have HB := n0_; have BK101 := n1_; have GW101 := n2_; have GE101 := n3_; clear n0_ n1_ n2_ n3_ hb hbox hg; obtain ⟨_, _, _, _, _, _, _, _, _, _⟩ := qc5f BK101.out) | ((with_reducible refine zJq (f := 284) rfl ?_); refine goesL_ (some 5) rfl rfl Try.func284 (by kernel_rfl) rfl #[.int .i64 a0_1] rfl (by (try simp only [zR, zS, zT]); first | done | rfl | (simp only [zP, zQ]; rfl)) ?_; (with_reducible refine (line_paid.calls a0_1 true _ A2.out).mono ?_); rintro e w' ⟨rfl, ⟨nd, rfl⟩⟩; refine ⟨_, rfl, ?_⟩) | (go_at_call 284; (with_reducible refine (line_paid.calls a0_2 true _ A4.out).mono ?_); rintro e w' ⟨rfl, ⟨nd, rfl⟩⟩) | (go_at_call 284; (with_reducible refine (line_paid.calls a0_3 true _ A6.out).mono ?_); rintro e w' ⟨rfl, ⟨nd, rfl⟩⟩) | (go_at_call 285; (with_reducible refine (cents_In.calls (wrap64 (a0_2 + a0_3)) t105 _ A9.out).mono ?_); rintro e w' ⟨rfl, ⟨nd, rfl⟩⟩)); go_ret; exact ⟨qE, qB⟩
        rw [if_neg c8] at H; have c8b0 : decide (a0_2 ≤ a0_1) = false := zGq c8; clear c8; obtain rfl := zKq H; go_enter Try.func259, Try.ntmps259; go_wp2_with (first | ((with_reducible refine gate_dst (N := 1) rfl ?_); refine box_event qr (N := 1) qr (cs := #[.int .i64 a0_0, .int .i64 a0_1, .int .i64 a0_2, .int .i64 a0_3, .slice A0_4 l0_4.length c0_4]) (t := 341) qg ?_; intro gb101 hg w12 hbox hb; have n0_ := zA (zV qB hb); have n1_ := zA (hbox); have n2_ := zA ((qS : w.heap.size ≤ gb101)); have n3_ := zA ((qS : w.heap.size ≤ gb101)); clear HB; have HB := n0_; have BK101 := n1_; have GW101 := n2_; have GE101 := n3_; clear n0_ n1_ n2_ n3_ hb hbox hg; obtain ⟨_, _, _, _, _, _, _, _, _, _⟩ := qc5f BK101.out) | ((with_reducible refine zJq (f := 284) rfl ?_); refine goesL_ (some 5) rfl rfl Try.func284 (by kernel_rfl) rfl #[.int .i64 a0_1] rfl (by (try simp only [zR, zS, zT]); first | done | rfl | (simp only [zP, zQ]; rfl)) ?_; (with_reducible refine (line_paid.calls a0_1 true _ A2.out).mono ?_); rintro e w' ⟨rfl, ⟨nd, rfl⟩⟩; refine ⟨_, rfl, ?_⟩) | (go_at_call 284; (with_reducible refine (line_paid.calls a0_2 true _ A4.out).mono ?_); rintro e w' ⟨rfl, ⟨nd, rfl⟩⟩) | (go_at_call 284; (with_reducible refine (line_paid.calls a0_3 true _ A6.out).mono ?_); rintro e w' ⟨rfl, ⟨nd, rfl⟩⟩)); go_ret; exact ⟨qE, qB⟩
      replace c7 := Bool.eq_false_iff.mpr c7; subst c7; have H1 : (some false) = some r := by first | (rw [if_neg (show ¬ (false = true) by decide)] at H; exact H) | rfl
      clear H; have H := H1; clear H1; obtain rfl := zKq H; go_enter Try.func259, Try.ntmps259; go_wp2_with (first | ((with_reducible refine gate_dst (N := 1) rfl ?_); refine box_event qr (N := 1) qr (cs := #[.int .i64 a0_0, .int .i64 a0_1, .int .i64 a0_2, .int .i64 a0_3, .slice A0_4 l0_4.length c0_4]) (t := 341) qg ?_; intro gb101 hg w14 hbox hb; have n0_ := zA (zV qB hb); have n1_ := zA (hbox); have n2_ := zA ((qS : w.heap.size ≤ gb101)); have n3_ := zA ((qS : w.heap.size ≤ gb101)); clear HB; have HB := n0_; have BK101 := n1_; have GW101 := n2_; have GE101 := n3_; clear n0_ n1_ n2_ n3_ hb hbox hg; obtain ⟨_, _, _, _, _, _, _, _, _, _⟩ := qc5f BK101.out) | ((with_reducible refine zJq (f := 284) rfl ?_); refine goesL_ (some 5) rfl rfl Try.func284 (by kernel_rfl) rfl #[.int .i64 a0_1] rfl (by (try simp only [zR, zS, zT]); first | done | rfl | (simp only [zP, zQ]; rfl)) ?_; (with_reducible refine (line_paid.calls a0_1 true _ A2.out).mono ?_); rintro e w' ⟨rfl, ⟨nd, rfl⟩⟩; refine ⟨_, rfl, ?_⟩) | (go_at_call 284; (with_reducible refine (line_paid.calls a0_2 true _ A4.out).mono ?_); rintro e w' ⟨rfl, ⟨nd, rfl⟩⟩) | (go_at_call 284; (with_reducible refine (line_paid.calls a0_3 false _ A6.out).mono ?_); rintro e w' ⟨rfl, ⟨nd, rfl⟩⟩)); go_ret; exact ⟨qE, qB⟩
    replace c5 := Bool.eq_false_iff.mpr c5; subst c5; have H1 : (some false) = some r := by first | (rw [if_neg (show ¬ (false = true) by decide)] at H; exact H) | rfl
    clear H; have H := H1; clear H1; obtain rfl := zKq H; go_enter Try.func259, Try.ntmps259; go_wp2_with (first | ((with_reducible refine gate_dst (N := 1) rfl ?_); refine box_event qr (N := 1) qr (cs := #[.int .i64 a0_0, .int .i64 a0_1, .int .i64 a0_2, .int .i64 a0_3, .slice A0_4 l0_4.length c0_4]) (t := 341) qg ?_; intro gb101 hg w16 hbox hb; have n0_ := zA (zV qB hb); have n1_ := zA (hbox); have n2_ := zA ((qS : w.heap.size ≤ gb101)); have n3_ := zA ((qS : w.heap.size ≤ gb101)); clear HB; have HB := n0_; have BK101 := n1_; have GW101 := n2_; have GE101 := n3_; clear n0_ n1_ n2_ n3_ hb hbox hg; obtain ⟨_, _, _, _, _, _, _, _, _, _⟩ := qc5f BK101.out) | ((with_reducible refine zJq (f := 284) rfl ?_); refine goesL_ (some 5) rfl rfl Try.func284 (by kernel_rfl) rfl #[.int .i64 a0_1] rfl (by (try simp only [zR, zS, zT]); first | done | rfl | (simp only [zP, zQ]; rfl)) ?_; (with_reducible refine (line_paid.calls a0_1 true _ A2.out).mono ?_); rintro e w' ⟨rfl, ⟨nd, rfl⟩⟩; refine ⟨_, rfl, ?_⟩) | (go_at_call 284; (with_reducible refine (line_paid.calls a0_2 false _ A4.out).mono ?_); rintro e w' ⟨rfl, ⟨nd, rfl⟩⟩)); go_ret; exact ⟨qE, qB⟩
  replace c3 := Bool.eq_false_iff.mpr c3
  subst c3
  have H1 : (some false) = some r := by first | (rw [if_neg (show ¬ (false = true) by decide)] at H; exact H) | rfl
  clear H
  have H := H1
  clear H1
  obtain rfl := zKq H
  go_enter Try.func259, Try.ntmps259
  go_wp2_with (first | ((with_reducible refine gate_dst (N := 1) rfl ?_); refine box_event qr (N := 1) qr (cs := #[.int .i64 a0_0, .int .i64 a0_1, .int .i64 a0_2, .int .i64 a0_3, .slice A0_4 l0_4.length c0_4]) (t := 341) qg ?_; intro gb101 hg w18 hbox hb; have n0_ := zA (zV qB hb); have n1_ := zA (hbox); have n2_ := zA ((qS : w.heap.size ≤ gb101)); have n3_ := zA ((qS : w.heap.size ≤ gb101)); clear HB; have HB := n0_; have BK101 := n1_; have GW101 := n2_; have GE101 := n3_; clear n0_ n1_ n2_ n3_ hb hbox hg; obtain ⟨_, _, _, _, _, _, _, _, _, _⟩ := qc5f BK101.out) | ((with_reducible refine zJq (f := 284) rfl ?_); refine goesL_ (some 5) rfl rfl Try.func284 (by kernel_rfl) rfl #[.int .i64 a0_1] rfl (by (try simp only [zR, zS, zT]); first | done | rfl | (simp only [zP, zQ]; rfl)) ?_; (with_reducible refine (line_paid.calls a0_1 false _ A2.out).mono ?_); rintro e w' ⟨rfl, ⟨nd, rfl⟩⟩; refine ⟨_, rfl, ?_⟩))
  go_ret
  exact ⟨qE, qB⟩
def line_Check.j0 : Nat → Bool → Int → Int → Int → Int → List ByteArray → Int → Int → Int → Int → List ByteArray → Option (Int)
  | 0, _, _, _, _, _, _, _, _, _, _, _ => none
  | k + 1, x6, x102000, x102001, x102002, x102003, x102004, x1000004000, x1000004001, x1000004002, x1000004003, x1000004004 => if x6 = true then (some 2) else ((line_price_may.f x1000004000 x1000004001 x1000004002 x1000004003 x1000004004).bind fun t102 => (if t102 = true then (if (x102004.length : Int) < 1 then (some 9) else (if (x102004.length : Int) > 20 then (some 9) else ((serial_Row.f k x102004).bind fun t103 => (if t103 = 0 then (some 0) else (some 9))))) else (some 8)))
def line_Check.f (k : Nat) (a0_0 : Int) (a0_1 : Int) (a0_2 : Int) (a0_3 : Int) (l0_4 : List ByteArray) : Option (Int) := if a0_0 < 1 then (line_Check.j0 k true a0_0 a0_1 a0_2 a0_3 l0_4 a0_0 a0_1 a0_2 a0_3 l0_4) else (line_Check.j0 k (decide (a0_0 > 999999)) a0_0 a0_1 a0_2 a0_3 l0_4 a0_0 a0_1 a0_2 a0_3 l0_4)
theorem line_Check.mono_l : ∀ k, (∀ y0 y1 y2 y3 y4 y5 y6 y7 y8 y9 y10, LeO (line_Check.j0 k y0 y1 y2 y3 y4 y5 y6 y7 y8 y9 y10) (line_Check.j0 (k + 1) y0 y1 y2 y3 y4 y5 y6 y7 y8 y9 y10))
  | 0 => fun _ _ _ _ _ _ _ _ _ _ _ r h => by simp [line_Check.j0] at h
  | k + 1 => by
    have ih0 := line_Check.mono_l k
    intro y0 y1 y2 y3 y4 y5 y6 y7 y8 y9 y10
    unfold line_Check.j0
    repeat' first
    | (with_reducible exact ih0 _ _ _ _ _ _ _ _ _ _ _)
    | (with_reducible exact serial_Row.mono _ _)
    | (with_reducible exact LeO.refl _)
    | (with_reducible exact LeO.none _)
    | (with_reducible refine LeO.ite ?_ ?_)
    | (with_reducible refine LeO.bind ?_ (fun _ => ?_))
    | exact ih0 _ _ _ _ _ _ _ _ _ _ _
    | exact serial_Row.mono _ _
    | exact LeO.none _
    | refine LeO.ite ?_ ?_
    | refine LeO.bind ?_ (fun _ => ?_)
theorem line_Check.mono : ∀ a0 a1 a2 a3 a4 k, LeO (line_Check.f k a0 a1 a2 a3 a4) (line_Check.f (k + 1) a0 a1 a2 a3 a4) := by
  intro a0 a1 a2 a3 a4 k
  have ih0 := line_Check.mono_l k
  unfold line_Check.f
  repeat' first
      | (with_reducible exact ih0 _ _ _ _ _ _ _ _ _ _ _)
      | (with_reducible exact serial_Row.mono _ _)
      | (with_reducible exact LeO.refl _)
      | (with_reducible exact LeO.none _)
      | (with_reducible refine LeO.ite ?_ ?_)
      | (with_reducible refine LeO.bind ?_ (fun _ => ?_))
      | exact ih0 _ _ _ _ _ _ _ _ _ _ _
      | exact serial_Row.mono _ _
      | exact LeO.none _
      | refine LeO.ite ?_ ?_
      | refine LeO.bind ?_ (fun _ => ?_)
set_option maxHeartbeats 8000000 in
set_option maxRecDepth 100000 in
theorem line_Check.calls (k : Nat) (a0_0 : Int) (a0_1 : Int) (a0_2 : Int) (a0_3 : Int) (A0_4 : Option Addr) (c0_4 : Nat) (l0_4 : List ByteArray) (r : Int) (w : World) (hr0_4 : Kd.C Kd.string w A0_4 l0_4.length l0_4) (hc0_4 : l0_4.length ≤ c0_4) (h : line_Check.f k a0_0 a0_1 a0_2 a0_3 l0_4 = some r) :
    Calls Try.prog 220 #[.agg #[.int .i64 a0_0, .int .i64 a0_1, .int .i64 a0_2, .int .i64 a0_3, .slice A0_4 l0_4.length c0_4]] w fun e w' => e = .returned (.int .i64 r) ∧ Below w.heap.size w w' := by
  have hu216 := Try.underlying216
  have hmf : ∀ (fn : Fn) (first cap : Array Value) (w : World), (Instr.makeFunc fn first cap).run Try.prog w = .ok (.func fn first cap) w := fun _ _ _ _ => rfl
  have HR0_4 := zA hr0_4
  have HC0_4 := zA hc0_4
  clear hr0_4 hc0_4
  have HB := zA (Below.refl w.heap.size w)
  have H : (if a0_0 < 1 then (line_Check.j0 k true a0_0 a0_1 a0_2 a0_3 l0_4 a0_0 a0_1 a0_2 a0_3 l0_4) else (line_Check.j0 k (decide (a0_0 > 999999)) a0_0 a0_1 a0_2 a0_3 l0_4 a0_0 a0_1 a0_2 a0_3 l0_4)) = some r := h
  clear h
  have HC2 := zA H
  clear H
  go_enter Try.func220, Try.ntmps220
  go_upto_region 2 with (first | ((with_reducible refine gate_dst (N := 1) rfl ?_); (try (refine gate_guard (by rfl) ?_; dsimp only)); refine box_event qr (N := 1) qr (cs := #[.int .i64 a0_0, .int .i64 a0_1, .int .i64 a0_2, .int .i64 a0_3, .slice A0_4 l0_4.length c0_4]) (t := 216) qg ?_; intro gb101 hg w3 hbox hb; have n0_ := zA (zV qB hb); have n1_ := zA (hbox); have n2_ := zA ((qS : w.heap.size ≤ gb101)); have n3_ := zA ((qS : w.heap.size ≤ gb101)); clear HB; have HB := n0_; have BK101 := n1_; have GW101 := n2_; have GE101 := n3_; clear n0_ n1_ n2_ n3_ hb hbox hg; obtain ⟨_, _, _, _, _, _, _, _, _, _⟩ := qc5f BK101.out))
  (try simp only [Act.put, zH, zI, zJ])
  go_cut [6] (fun v6 wc => ∃ (kq : Nat) (x6_1 : Bool), v6 = .bool x6_1 ∧ Aside0 (line_Check.j0 kq x6_1 a0_0 a0_1 a0_2 a0_3 l0_4 a0_0 a0_1 a0_2 a0_3 l0_4 = some r) ∧ Aside0 (kq ≤ k) ∧ Aside0 (wc.heap[gb101]? = some (.cells #[.int .i64 a0_0, .int .i64 a0_1, .int .i64 a0_2, .int .i64 a0_3, (.slice A0_4 l0_4.length c0_4)] 216 (0, 0))) ∧ Aside0 (Below w.heap.size w wc))
  case first =>
    have H := HC2.out; clear HC2; by_cases c5 : a0_0 < 1
    · rw [if_pos c5] at H
      have c5b0 : decide (a0_0 < 1) = true := zFq c5; clear c5; (first | rw [c5b0] | (simp only [i64_w, i32_w]; rw [c5b0]) | skip)
      have H' := zA H; clear H; obtain ⟨_, _, _, _, _, _, _, _, _, _⟩ := qc5f BK101.out; go_wp2; go_meet
      case rel => exact ⟨_, (true), (by first | rfl | (simp; done) | (simp [*]; done)), H', ⟨by first | omega | exact Nat.le_refl _⟩, ⟨by exact BK101.out⟩, ⟨qB⟩⟩
    rw [if_neg c5] at H; have c5b0 : decide (a0_0 < 1) = false := zGq c5; clear c5; (first | rw [c5b0] | (simp only [i64_w, i32_w]; rw [c5b0]) | skip)
    have H' := zA H; clear H; obtain ⟨_, _, _, _, _, _, _, _, _, _⟩ := qc5f BK101.out; go_wp2; go_meet
    case rel => exact ⟨_, (decide (a0_0 > 999999)), (by first | rfl | (simp; done) | (simp [*]; done)), H', ⟨by first | omega | exact Nat.le_refl _⟩, ⟨by exact BK101.out⟩, ⟨qB⟩⟩
  case rest =>
    clear HC2; try clear c2
    try clear p2
    try clear c5
    try clear c5b0
    obtain ⟨kq, x6_1, rfl, HA, HJ1, BK101, HB⟩ := hcut; cases kq with
    | zero => exact absurd HA.out (by simp [line_Check.j0])
    | succ kj1 =>
      have H := HA.out; clear HA; simp only [line_Check.j0] at H; by_cases c8 : x6_1 = true
      · subst c8
        have H1 : (some 2) = some r := by first | (rw [if_pos rfl] at H; exact H) | rfl
        clear H; have H := H1; clear H1; obtain rfl := zKq H; go_wp2; go_ret; exact ⟨qE, qB⟩
      replace c8 := Bool.eq_false_iff.mpr c8; subst c8; have H1 : ((line_price_may.f a0_0 a0_1 a0_2 a0_3 l0_4).bind fun t102 => (if t102 = true then (if (l0_4.length : Int) < 1 then (some 9) else (if (l0_4.length : Int) > 20 then (some 9) else ((serial_Row.f kj1 l0_4).bind fun t103 => (if t103 = 0 then (some 0) else (some 9))))) else (some 8))) = some r := by first | (rw [if_neg (show ¬ (false = true) by decide)] at H; exact H) | rfl
      clear H; have H := H1; clear H1; replace H := Option.bind_eq_some_iff.mp H; obtain ⟨t102, A90, H⟩ := H; replace H : (if t102 = true then (if (l0_4.length : Int) < 1 then (some 9) else (if (l0_4.length : Int) > 20 then (some 9) else ((serial_Row.f kj1 l0_4).bind fun t103 => (if t103 = 0 then (some 0) else (some 9))))) else (some 8)) = some r := H; have A9 := zA A90; clear A90; by_cases c10 : t102 = true
      · subst c10
        have H1 : (if (l0_4.length : Int) < 1 then (some 9) else (if (l0_4.length : Int) > 20 then (some 9) else ((serial_Row.f kj1 l0_4).bind fun t103 => (if t103 = 0 then (some 0) else (some 9))))) = some r := by first | (rw [if_pos rfl] at H; exact H) | rfl
        clear H; have H := H1; clear H1; by_cases c11 : (l0_4.length : Int) < 1
        · rw [if_pos c11] at H
          have c11b0 : decide ((l0_4.length : Int) < 1) = true := zFq c11; have c11b1 : decide (l0_4.length < 1) = true := zFq (by omega); clear c11; obtain rfl := zKq H; go_wp2_with (first | (go_at_call 259; (with_reducible refine (line_price_may.calls a0_0 a0_1 a0_2 a0_3 _ _ l0_4 true _ ?side1 ?side2 A9.out).mono ?_); (case side1 => exact qC (Kd.C_below HR0_4.out HB.out)); (case side2 => exact HC0_4.out); rintro e w12 ⟨rfl, hb⟩; have n0_ := zA (qX BK101.out hb); have n1_ := zA (zV qB hb); clear BK101 HB; have BK101 := n0_; have HB := n1_; clear n0_ n1_; (try clear hb); (try clear hb2); (try clear hk); (try clear hi); obtain ⟨_, _, _, _, _, _, _, _, _, _⟩ := qc5f BK101.out)); go_ret; exact ⟨qE, qB⟩
        rw [if_neg c11] at H; have c11b0 : decide ((l0_4.length : Int) < 1) = false := zGq c11; have c11b1 : decide (l0_4.length < 1) = false := zGq (by omega); clear c11; by_cases c14 : (l0_4.length : Int) > 20
        · rw [if_pos c14] at H
          have c14b0 : decide (20 < (l0_4.length : Int)) = true := zFq c14; have c14b1 : decide (20 < l0_4.length) = true := zFq (by omega); clear c14; obtain rfl := zKq H; go_wp2_with (first | (go_at_call 259; (with_reducible refine (line_price_may.calls a0_0 a0_1 a0_2 a0_3 _ _ l0_4 true _ ?side1 ?side2 A9.out).mono ?_); (case side1 => exact qC (Kd.C_below HR0_4.out HB.out)); (case side2 => exact HC0_4.out); rintro e w15 ⟨rfl, hb⟩; have n0_ := zA (qX BK101.out hb); have n1_ := zA (zV qB hb); clear BK101 HB; have BK101 := n0_; have HB := n1_; clear n0_ n1_; (try clear hb); (try clear hb2); (try clear hk); (try clear hi); obtain ⟨_, _, _, _, _, _, _, _, _, _⟩ := qc5f BK101.out)); go_ret; exact ⟨qE, qB⟩
        rw [if_neg c14] at H; have c14b0 : decide (20 < (l0_4.length : Int)) = false := zGq c14; have c14b1 : decide (20 < l0_4.length) = false := zGq (by omega); clear c14; replace H := Option.bind_eq_some_iff.mp H; obtain ⟨t103, A170, H⟩ := H; replace H : (if t103 = 0 then (some 0) else (some 9)) = some r := H; have A17 := zA A170; clear A170; by_cases c18 : t103 = 0
        · rw [if_pos c18] at H
          have c18b0 : (t103 == 0) = true := beq_iff_eq.mpr c18; have c18b1 : (t103 != 0) = false := bne_eq_false_iff_eq.mpr c18; clear c18; obtain rfl := zKq H; go_wp2_with (first | (go_at_call 259; (with_reducible refine (line_price_may.calls a0_0 a0_1 a0_2 a0_3 _ _ l0_4 true _ ?side1 ?side2 A9.out).mono ?_); (case side1 => exact qC (Kd.C_below HR0_4.out HB.out)); (case side2 => exact HC0_4.out); rintro e w19 ⟨rfl, hb⟩; have n0_ := zA (qX BK101.out hb); have n1_ := zA (zV qB hb); clear BK101 HB; have BK101 := n0_; have HB := n1_; clear n0_ n1_; (try clear hb); (try clear hb2); (try clear hk); (try clear hi); obtain ⟨_, _, _, _, _, _, _, _, _, _⟩ := qc5f BK101.out) | (go_at_call 161; (with_reducible refine (serial_Row.calls kj1 _ _ l0_4 t103 _ ?side1 ?side2 A17.out).mono ?_); (case side1 => exact qC (Kd.C_below HR0_4.out HB.out)); (case side2 => exact HC0_4.out); rintro e w21 ⟨rfl, hb⟩; have n0_ := zA (qX BK101.out hb); have n1_ := zA (zV qB hb); clear BK101 HB; have BK101 := n0_; have HB := n1_; clear n0_ n1_; (try clear hb); (try clear hb2); (try clear hk); (try clear hi))); go_ret; exact ⟨qE, qB⟩
        rw [if_neg c18] at H; have c18b0 : (t103 == 0) = false := beq_eq_false_iff_ne.mpr c18; have c18b1 : (t103 != 0) = true := bne_iff_ne.mpr c18; obtain rfl := zKq H; go_wp2_with (first | (go_at_call 259; (with_reducible refine (line_price_may.calls a0_0 a0_1 a0_2 a0_3 _ _ l0_4 true _ ?side1 ?side2 A9.out).mono ?_); (case side1 => exact qC (Kd.C_below HR0_4.out HB.out)); (case side2 => exact HC0_4.out); rintro e w22 ⟨rfl, hb⟩; have n0_ := zA (qX BK101.out hb); have n1_ := zA (zV qB hb); clear BK101 HB; have BK101 := n0_; have HB := n1_; clear n0_ n1_; (try clear hb); (try clear hb2); (try clear hk); (try clear hi); obtain ⟨_, _, _, _, _, _, _, _, _, _⟩ := qc5f BK101.out) | (go_at_call 161; (with_reducible refine (serial_Row.calls kj1 _ _ l0_4 t103 _ ?side1 ?side2 A17.out).mono ?_); (case side1 => exact qC (Kd.C_below HR0_4.out HB.out)); (case side2 => exact HC0_4.out); rintro e w24 ⟨rfl, hb⟩; have n0_ := zA (qX BK101.out hb); have n1_ := zA (zV qB hb); clear BK101 HB; have BK101 := n0_; have HB := n1_; clear n0_ n1_; (try clear hb); (try clear hb2); (try clear hk); (try clear hi))); go_ret; exact ⟨qE, qB⟩
      replace c10 := Bool.eq_false_iff.mpr c10; subst c10; have H1 : (some 8) = some r := by first | (rw [if_neg (show ¬ (false = true) by decide)] at H; exact H) | rfl
      clear H; have H := H1; clear H1; obtain rfl := zKq H; go_wp2_with (first | (go_at_call 259; (with_reducible refine (line_price_may.calls a0_0 a0_1 a0_2 a0_3 _ _ l0_4 false _ ?side1 ?side2 A9.out).mono ?_); (case side1 => exact qC (Kd.C_below HR0_4.out HB.out)); (case side2 => exact HC0_4.out); rintro e w25 ⟨rfl, hb⟩; have n0_ := zA (qX BK101.out hb); have n1_ := zA (zV qB hb); clear BK101 HB; have BK101 := n0_; have HB := n1_; clear n0_ n1_; (try clear hb); (try clear hb2); (try clear hk); (try clear hi))); go_ret; exact ⟨qE, qB⟩
def cents_Add.l0 : Nat → Int → List Int → Int → Int → Option (Int × Int)
  | 0, _, _, _, _ => none
  | k + 1, x4, x7, x8, x9 => if x9 < x8 then (if 0 ≤ x9 then (if x9 < (x7.length : Int) then ((cents_In.f (rd x7 x9)).bind fun t102 => (if t102 = true then ((cents_In.f (wrap64 (x4 + (rd x7 x9)))).bind fun t103 => (if t103 = true then (cents_Add.l0 k (wrap64 (x4 + (rd x7 x9))) x7 x8 (wrap64 (x9 + 1))) else (some (0, 8)))) else (some (0, 8)))) else (none)) else (none)) else (some (x4, 0))
def cents_Add.f (k : Nat) (l0 : List Int) : Option (Int × Int) := cents_Add.l0 k 0 l0 (l0.length : Int) 0
theorem cents_Add.mono_l : ∀ k, (∀ y0 y1 y2 y3, LeO (cents_Add.l0 k y0 y1 y2 y3) (cents_Add.l0 (k + 1) y0 y1 y2 y3))
  | 0 => fun _ _ _ _ r h => by simp [cents_Add.l0] at h
  | k + 1 => by
    have ih0 := cents_Add.mono_l k
    intro y0 y1 y2 y3
    unfold cents_Add.l0
    repeat' first
    | (with_reducible exact ih0 _ _ _ _)
    | (with_reducible exact LeO.refl _)
    | (with_reducible exact LeO.none _)
    | (with_reducible refine LeO.ite ?_ ?_)
    | (with_reducible refine LeO.bind ?_ (fun _ => ?_))
    | exact ih0 _ _ _ _
    | exact LeO.none _
    | refine LeO.ite ?_ ?_
    | refine LeO.bind ?_ (fun _ => ?_)
theorem cents_Add.mono : ∀ a0 k, LeO (cents_Add.f k a0) (cents_Add.f (k + 1) a0) := by
  intro a0 k
  have ih0 := cents_Add.mono_l k
  unfold cents_Add.f
  repeat' first
      | (with_reducible exact ih0 _ _ _ _)
      | (with_reducible exact LeO.refl _)
      | (with_reducible exact LeO.none _)
      | (with_reducible refine LeO.ite ?_ ?_)
      | (with_reducible refine LeO.bind ?_ (fun _ => ?_))
      | exact ih0 _ _ _ _
      | exact LeO.none _
      | refine LeO.ite ?_ ?_
      | refine LeO.bind ?_ (fun _ => ?_)
set_option maxHeartbeats 8000000 in
set_option maxRecDepth 100000 in
theorem cents_Add.calls (k : Nat) (A0 : Option Addr) (c0 : Nat) (l0 : List Int) (r1 : Int) (r2 : Int) (w : World) (hr0 : Kd.C (Kd.int .i64) w A0 l0.length l0) (hc0 : l0.length ≤ c0) (h : cents_Add.f k l0 = some (r1, r2)) :
    Calls Try.prog 260 #[.slice A0 l0.length c0] w fun e w' => e = .returned (.tuple #[.int .i64 r1, .int .i64 r2]) ∧ Drawn0 w w' := by
  have HR0 := zA hr0
  have HC0 := zA hc0
  clear hr0 hc0
  have H : (cents_Add.l0 k 0 l0 (l0.length : Int) 0) = some (r1, r2) := h
  clear h
  have H' := zA H
  clear H
  go_enter Try.func260, Try.ntmps260
  go_wp2
  go_loopg [4, 9] k (fun kq v4 v9 w' => ∃ (x4_1 : Int) (x9_1 : Int), v4 = .int .i64 x4_1 ∧ v9 = .int .i64 x9_1 ∧ Aside0 (cents_Add.l0 kq x4_1 l0 (l0.length : Int) x9_1 = some (r1, r2)) ∧ Aside0 (kq ≤ k) ∧ Drawn0 w w')
  case atStart => exact ⟨(0), (0), (by first | rfl | (simp; done) | (simp [*]; done)), (by first | rfl | (simp; done) | (simp [*]; done)), H', ⟨Nat.le_refl _⟩, by repeat (first | exact Drawn0.refl _ | apply Drawn0.step)⟩
  case round =>
    clear H'; obtain ⟨x4_1, x9_1, rfl, rfl, HA, HK1, ⟨m1, rfl⟩⟩ := hrel; cases gk with
    | zero => exact absurd HA.out (by simp [cents_Add.l0])
    | succ k1 =>
      have H := HA.out; clear HA; simp only [cents_Add.l0] at H; by_cases c2 : x9_1 < (l0.length : Int)
      · rw [if_pos c2] at H
        have c2b0 : decide (x9_1 < (l0.length : Int)) = true := zFq c2; clear c2; by_cases c3 : 0 ≤ x9_1
        · rw [if_pos c3] at H
          have c3b0 : decide (0 ≤ x9_1) = true := zFq c3; clear c3; by_cases c4 : x9_1 < (l0.length : Int)
          · rw [if_pos c4] at H
            have c4b0 : decide (x9_1 < (l0.length : Int)) = true := zFq c4; clear c4; replace H := Option.bind_eq_some_iff.mp H; obtain ⟨t102, A50, H⟩ := H; replace H : (if t102 = true then ((cents_In.f (wrap64 (x4_1 + (rd l0 x9_1)))).bind fun t103 => (if t103 = true then (cents_Add.l0 k1 (wrap64 (x4_1 + (rd l0 x9_1))) l0 (l0.length : Int) (wrap64 (x9_1 + 1))) else (some (0, 8)))) else (some (0, 8))) = some (r1, r2) := H; have A5 := zA A50; clear A50; by_cases c6 : t102 = true
            · subst c6
              have H1 : ((cents_In.f (wrap64 (x4_1 + (rd l0 x9_1)))).bind fun t103 => (if t103 = true then (cents_Add.l0 k1 (wrap64 (x4_1 + (rd l0 x9_1))) l0 (l0.length : Int) (wrap64 (x9_1 + 1))) else (some (0, 8)))) = some (r1, r2) := by first | (rw [if_pos rfl] at H; exact H) | rfl
              clear H; have H := H1; clear H1; replace H := Option.bind_eq_some_iff.mp H; obtain ⟨t103, A70, H⟩ := H; replace H : (if t103 = true then (cents_Add.l0 k1 (wrap64 (x4_1 + (rd l0 x9_1))) l0 (l0.length : Int) (wrap64 (x9_1 + 1))) else (some (0, 8))) = some (r1, r2) := H; have A7 := zA A70; clear A70; by_cases c8 : t103 = true
              · subst c8
                have H1 : (cents_Add.l0 k1 (wrap64 (x4_1 + (rd l0 x9_1))) l0 (l0.length : Int) (wrap64 (x9_1 + 1))) = some (r1, r2) := by first | (rw [if_pos rfl] at H; exact H) | rfl
                clear H; have H := H1; clear H1; have H' := zA H; clear H; have p101 : 0 ≤ (x9_1 : Int) := of_decide_eq_true qA; have q101 : x9_1 < (l0.length : Int) := of_decide_eq_true qA; obtain ⟨ad101, e101, hx101_0⟩ := Kd.at_int HR0.out x9_1 p101 q101; cases e101
                replace p101 := eq_true p101; replace q101 := eq_true q101; go_wp2_with (first | ((with_reducible refine zJq (f := 285) rfl ?_); refine goesL_ (some 14) rfl rfl Try.func285 (by kernel_rfl) rfl #[.int .i64 (rd l0 x9_1)] rfl (by (try simp only [zR, zS, zT]); first | done | rfl | (simp only [zP, zQ]; rfl)) ?_; (with_reducible refine (cents_In.calls (rd l0 x9_1) true _ A5.out).mono ?_); rintro e w' ⟨rfl, ⟨nd, rfl⟩⟩; refine ⟨_, rfl, ?_⟩) | (go_at_call 285; (with_reducible refine (cents_In.calls (wrap64 (x4_1 + (rd l0 x9_1))) true _ A7.out).mono ?_); rintro e w' ⟨rfl, ⟨nd, rfl⟩⟩)); go_roundg k1
                case measure => have := HK1.out; omega
                case rel => exact ⟨(wrap64 (x4_1 + (rd l0 x9_1))), (wrap64 (x9_1 + 1)), (by first | rfl | (simp; done) | (simp [*]; done)), (by first | rfl | (simp; done) | (simp [*]; done)), H', ⟨by have := HK1.out; omega⟩, by repeat (first | exact Drawn0.refl _ | apply Drawn0.step)⟩
              replace c8 := Bool.eq_false_iff.mpr c8; subst c8; have H1 : (some (0, 8)) = some (r1, r2) := by first | (rw [if_neg (show ¬ (false = true) by decide)] at H; exact H) | rfl
              clear H; have H := H1; clear H1; simp only [zNq, zOq] at H; obtain ⟨rfl, rfl⟩ := H; have p101 : 0 ≤ (x9_1 : Int) := of_decide_eq_true qA; have q101 : x9_1 < (l0.length : Int) := of_decide_eq_true qA; obtain ⟨ad101, e101, hx101_0⟩ := Kd.at_int HR0.out x9_1 p101 q101; cases e101
              replace p101 := eq_true p101; replace q101 := eq_true q101; go_wp2_with (first | ((with_reducible refine zJq (f := 285) rfl ?_); refine goesL_ (some 14) rfl rfl Try.func285 (by kernel_rfl) rfl #[.int .i64 (rd l0 x9_1)] rfl (by (try simp only [zR, zS, zT]); first | done | rfl | (simp only [zP, zQ]; rfl)) ?_; (with_reducible refine (cents_In.calls (rd l0 x9_1) true _ A5.out).mono ?_); rintro e w' ⟨rfl, ⟨nd, rfl⟩⟩; refine ⟨_, rfl, ?_⟩) | (go_at_call 285; (with_reducible refine (cents_In.calls (wrap64 (x4_1 + (rd l0 x9_1))) false _ A7.out).mono ?_); rintro e w' ⟨rfl, ⟨nd, rfl⟩⟩)); go_ret2; exact ⟨by first | rfl | (simp; done) | (simp [*]; done), by repeat (first | exact Drawn0.refl _ | apply Drawn0.step)⟩
            replace c6 := Bool.eq_false_iff.mpr c6; subst c6; have H1 : (some (0, 8)) = some (r1, r2) := by first | (rw [if_neg (show ¬ (false = true) by decide)] at H; exact H) | rfl
            clear H; have H := H1; clear H1; simp only [zNq, zOq] at H; obtain ⟨rfl, rfl⟩ := H; have p101 : 0 ≤ (x9_1 : Int) := of_decide_eq_true qA; have q101 : x9_1 < (l0.length : Int) := of_decide_eq_true qA; obtain ⟨ad101, e101, hx101_0⟩ := Kd.at_int HR0.out x9_1 p101 q101; cases e101
            replace p101 := eq_true p101; replace q101 := eq_true q101; go_wp2_with (first | ((with_reducible refine zJq (f := 285) rfl ?_); refine goesL_ (some 14) rfl rfl Try.func285 (by kernel_rfl) rfl #[.int .i64 (rd l0 x9_1)] rfl (by (try simp only [zR, zS, zT]); first | done | rfl | (simp only [zP, zQ]; rfl)) ?_; (with_reducible refine (cents_In.calls (rd l0 x9_1) false _ A5.out).mono ?_); rintro e w' ⟨rfl, ⟨nd, rfl⟩⟩; refine ⟨_, rfl, ?_⟩)); go_ret2; exact ⟨by first | rfl | (simp; done) | (simp [*]; done), by repeat (first | exact Drawn0.refl _ | apply Drawn0.step)⟩
          rw [if_neg c4] at H; exact absurd H (by simp)
        rw [if_neg c3] at H; exact absurd H (by simp)
      rw [if_neg c2] at H; have c2b0 : decide (x9_1 < (l0.length : Int)) = false := zGq c2; clear c2; simp only [zNq, zOq] at H; obtain ⟨rfl, rfl⟩ := H; go_wp2; go_ret2; exact ⟨by first | rfl | (simp; done) | (simp [*]; done), by repeat (first | exact Drawn0.refl _ | apply Drawn0.step)⟩
def order_total.l0 : Nat → Int → List (S216) → Int → Int → Option (Int × Int)
  | 0, _, _, _, _ => none
  | k + 1, x4, x9, x10, x11 => if x11 < x10 then (if 0 ≤ x11 then (if x11 < (x9.length : Int) then ((cents_Add.f k (([x4, (rd_T216 x9 x11).f2, (rd_T216 x9 x11).f3] : List Int))).bind fun bt106 => (if bt106.2 = 0 then (order_total.l0 k bt106.1 x9 x10 (wrap64 (x11 + 1))) else (some (0, bt106.2)))) else (none)) else (none)) else (some (x4, 0))
def order_total.f (k : Nat) (l0 : List (S216)) : Option (Int × Int) := order_total.l0 k 0 l0 (l0.length : Int) 0
theorem order_total.mono_l : ∀ k, (∀ y0 y1 y2 y3, LeO (order_total.l0 k y0 y1 y2 y3) (order_total.l0 (k + 1) y0 y1 y2 y3))
  | 0 => fun _ _ _ _ r h => by simp [order_total.l0] at h
  | k + 1 => by
    have ih0 := order_total.mono_l k
    intro y0 y1 y2 y3
    unfold order_total.l0
    repeat' first
    | (with_reducible exact ih0 _ _ _ _)
    | (with_reducible exact cents_Add.mono _ _)
    | (with_reducible exact LeO.refl _)
    | (with_reducible exact LeO.none _)
    | (with_reducible refine LeO.ite ?_ ?_)
    | (with_reducible refine LeO.bind ?_ (fun _ => ?_))
    | exact ih0 _ _ _ _
    | exact cents_Add.mono _ _
    | exact LeO.none _
    | refine LeO.ite ?_ ?_
    | refine LeO.bind ?_ (fun _ => ?_)
theorem order_total.mono : ∀ a0 k, LeO (order_total.f k a0) (order_total.f (k + 1) a0) := by
  intro a0 k
  have ih0 := order_total.mono_l k
  unfold order_total.f
  repeat' first
      | (with_reducible exact ih0 _ _ _ _)
      | (with_reducible exact cents_Add.mono _ _)
      | (with_reducible exact LeO.refl _)
      | (with_reducible exact LeO.none _)
      | (with_reducible refine LeO.ite ?_ ?_)
      | (with_reducible refine LeO.bind ?_ (fun _ => ?_))
      | exact ih0 _ _ _ _
      | exact cents_Add.mono _ _
      | exact LeO.none _
      | refine LeO.ite ?_ ?_
      | refine LeO.bind ?_ (fun _ => ?_)
set_option maxHeartbeats 8000000 in
set_option maxRecDepth 100000 in
theorem order_total.calls (k : Nat) (A0 : Option Addr) (c0 : Nat) (l0 : List (S216)) (r1 : Int) (r2 : Int) (w : World) (hr0 : Kd.C k216 w A0 l0.length l0) (hc0 : l0.length ≤ c0) (h : order_total.f k l0 = some (r1, r2)) :
    Calls Try.prog 221 #[.slice A0 l0.length c0] w fun e w' => e = .returned (.tuple #[.int .i64 r1, .int .i64 r2]) ∧ Below w.heap.size w w' := by
  have hu216 := Try.underlying216
  have HR0 := zA hr0
  have HC0 := zA hc0
  clear hr0 hc0
  have HB := zA (Below.refl w.heap.size w)
  have H : (order_total.l0 k 0 l0 (l0.length : Int) 0) = some (r1, r2) := h
  clear h
  have H' := zA H
  clear H
  go_enter Try.func221, Try.ntmps221
  go_wp2
  go_loopg [4, 11] k (fun kq v4 v11 w' => ∃ (x4_1 : Int) (x11_1 : Int), v4 = .int .i64 x4_1 ∧ v11 = .int .i64 x11_1 ∧ Aside0 (order_total.l0 kq x4_1 l0 (l0.length : Int) x11_1 = some (r1, r2)) ∧ Aside0 (kq ≤ k) ∧ Aside0 (Below w.heap.size w w'))
  case atStart => exact ⟨(0), (0), (by first | rfl | (simp; done) | (simp [*]; done)), (by first | rfl | (simp; done) | (simp [*]; done)), H', ⟨Nat.le_refl _⟩, ⟨qB⟩⟩
  case round =>
    clear H'; obtain ⟨x4_1, x11_1, rfl, rfl, HA, HK1, HB⟩ := hrel; cases gk with
    | zero => exact absurd HA.out (by simp [order_total.l0])
    | succ k1 =>
      have H := HA.out; clear HA; simp only [order_total.l0] at H; by_cases c2 : x11_1 < (l0.length : Int)
      · rw [if_pos c2] at H
        have c2b0 : decide (x11_1 < (l0.length : Int)) = true := zFq c2; clear c2; by_cases c3 : 0 ≤ x11_1
        · rw [if_pos c3] at H
          have c3b0 : decide (0 ≤ x11_1) = true := zFq c3; clear c3; by_cases c4 : x11_1 < (l0.length : Int)
          · rw [if_pos c4] at H
            have c4b0 : decide (x11_1 < (l0.length : Int)) = true := zFq c4; clear c4; obtain ⟨y103, hy103⟩ : ∃ y_ : List Int, y_ = (([x4_1, (rd_T216 l0 x11_1).f2, (rd_T216 l0 x11_1).f3] : List Int)) := ⟨_, rfl⟩
            replace H : ((cents_Add.f k1 y103).bind fun bt106 => (if bt106.2 = 0 then (order_total.l0 k1 bt106.1 l0 (l0.length : Int) (wrap64 (x11_1 + 1))) else (some (0, bt106.2)))) = some (r1, r2) := by first | (rw [hy103]; with_reducible exact H) | (have H2_ := (Option.bind_some _ _).symm.trans H; rw [hy103]; with_reducible exact H2_) | (have H2_ := (Option.bind_some _ _).symm.trans H; with_reducible exact H2_) | with_reducible exact H | (rw [hy103]; exact H) | exact H
            have Ny103 := zA hy103; clear hy103; replace H := Option.bind_eq_some_iff.mp H; obtain ⟨⟨t106, t107⟩, A50, H⟩ := H; replace H : (if t107 = 0 then (order_total.l0 k1 t106 l0 (l0.length : Int) (wrap64 (x11_1 + 1))) else (some (0, t107))) = some (r1, r2) := H; have A5 := zA A50; clear A50; by_cases c6 : t107 = 0
            · rw [if_pos c6] at H
              have c6b0 : (t107 == 0) = true := beq_iff_eq.mpr c6; have c6b1 : (t107 != 0) = false := bne_eq_false_iff_eq.mpr c6; clear c6; have H' := zA H; clear H; have p101 : 0 ≤ (x11_1 : Int) := of_decide_eq_true qA; have q101 : x11_1 < (l0.length : Int) := of_decide_eq_true qA; obtain ⟨ad101, A101_4, c101_4, e101, hx101_0, hx101_1, hx101_2, hx101_3, hx101_4, hl101_4, hi101_4⟩ := at_T216 HR0.out x11_1 p101 q101; cases e101
              replace hx101_0 := (HB.out.cell (zCq w _ hx101_0)).trans hx101_0; replace hx101_1 := (HB.out.cell (zCq w _ hx101_1)).trans hx101_1; replace hx101_2 := (HB.out.cell (zCq w _ hx101_2)).trans hx101_2; replace hx101_3 := (HB.out.cell (zCq w _ hx101_3)).trans hx101_3; replace hx101_4 := (HB.out.cell (zCq w _ hx101_4)).trans hx101_4; have HR101_4 := zA hi101_4; have HC101_4 := zA hl101_4; clear hi101_4 hl101_4; replace p101 := eq_true p101; replace q101 := eq_true q101; go_wp2_with (first | ((with_reducible refine gate_dst (N := 6) rfl ?_); refine box_event qr (N := 6) qr (cs := #[.int .i64 0, .int .i64 0, .int .i64 0, .int .i64 0, .slice none 0 0]) (t := 216) qg ?_; intro gb102 hg w7 hbox hb; have n0_ := zA (zV qB hb); have n1_ := zA (hbox); have n2_ := zA ((qS : w.heap.size ≤ gb102)); have n3_ := zA ((qS : w.heap.size ≤ gb102)); clear HB; have HB := n0_; have BK102 := n1_; have GW102 := n2_; have GE102 := n3_; clear n0_ n1_ n2_ n3_ hb hbox hg; obtain ⟨_, _, _, _, _, _, _, _, _, _⟩ := qc5f BK102.out) | ((with_reducible refine gate_dst (N := 21) rfl ?_); refine Kd.R_lit (Kd.int .i64) _ 3 ?hg (N := 21) ?hd (xs := ([x4_1, (rd_T216 l0 x11_1).f2, (rd_T216 l0 x11_1).f3] : List Int)) (inner := [.int .i64 x4_1, .int .i64 ((rd_T216 l0 x11_1).f2), .int .i64 ((rd_T216 l0 x11_1).f3)]) (ok := fun _ => True) (okp := fun _ => True) ?hr ?hp (fun _ hk => hk) trivial (Below.refl _ _) (Nat.le_refl _) (by simp) ?_; (case hd => rfl); (case hg => rfl); (case hr => first | (go_simp; done) | (go_simp; rfl)); (case hp => exact (Reps.one (show Kd.M (Kd.int .i64) _ _ _ x4_1 [.int .i64 x4_1] from rfl) (Reps.one (show Kd.M (Kd.int .i64) _ _ _ ((rd_T216 l0 x11_1).f2) [.int .i64 ((rd_T216 l0 x11_1).f2)] from rfl) (Reps.one (show Kd.M (Kd.int .i64) _ _ _ ((rd_T216 l0 x11_1).f3) [.int .i64 ((rd_T216 l0 x11_1).f3)] from rfl) (Reps.none _ _))))); intro v104 w9 ho10 hb hg_ hnew_; clear hg_ hnew_; (first | rw [← Ny103.out] at ho10 | (simp only [Int.reduceToNat] at ho10; rw [← Ny103.out] at ho10)); have n0_ := zA (Kd.R_lower ho10 (zW qB)); have n1_ := zA (zX (g := gb102) (o := .cells #[.int .i64 ((rd_T216 l0 x11_1).f0), .int .i64 ((rd_T216 l0 x11_1).f1), .int .i64 ((rd_T216 l0 x11_1).f2), .int .i64 ((rd_T216 l0 x11_1).f3), .slice A101_4 ((rd_T216 l0 x11_1).f4).length c101_4] 216 (0, 0)) (qV BK102.out) hb); have n2_ := zA (zV qB hb); clear BK102 HB; have HO105 := n0_; have BK102 := n1_; have HB := n2_; clear n0_ n1_ n2_ hb ho10; obtain ⟨Ao11, co11, eo11⟩ := Kd.R_slice HO105.out; subst eo11) | ((with_reducible refine zJq (f := 260) rfl ?_); refine goesL_ (some 22) rfl rfl Try.func260 (by kernel_rfl) rfl #[.slice Ao11 y103.length co11] rfl (by (try simp only [zR, zS, zT]); first | done | rfl | (simp only [zP, zQ]; rfl)) ?_; (with_reducible refine (cents_Add.calls k1 _ _ y103 t106 t107 _ ?side1 ?side2 A5.out).mono ?_); (case side1 => repeat (first | exact (Kd.R_reads' HO105.out).2.2 | (with_reducible refine Kd.C_alloc ?_ _) | (with_reducible refine Kd.C_drewN ?_ _) | (with_reducible refine Kd.C_drew ?_))); (case side2 => exact (Kd.R_reads' HO105.out).2.1); rintro e w' ⟨rfl, ⟨nd, rfl⟩⟩; refine ⟨_, rfl, ?_⟩))
              go_roundg k1
              case measure => have := HK1.out; omega
              case rel => exact ⟨(t106), (wrap64 (x11_1 + 1)), (by first | rfl | (simp; done) | (simp [*]; done)), (by first | rfl | (simp; done) | (simp [*]; done)), H', ⟨by have := HK1.out; omega⟩, ⟨qB⟩⟩
            rw [if_neg c6] at H; have c6b0 : (t107 == 0) = false := beq_eq_false_iff_ne.mpr c6; have c6b1 : (t107 != 0) = true := bne_iff_ne.mpr c6; simp only [zNq, zOq] at H; obtain ⟨rfl, rfl⟩ := H; have p101 : 0 ≤ (x11_1 : Int) := of_decide_eq_true qA; have q101 : x11_1 < (l0.length : Int) := of_decide_eq_true qA; obtain ⟨ad101, A101_4, c101_4, e101, hx101_0, hx101_1, hx101_2, hx101_3, hx101_4, hl101_4, hi101_4⟩ := at_T216 HR0.out x11_1 p101 q101; cases e101
            replace hx101_0 := (HB.out.cell (zCq w _ hx101_0)).trans hx101_0; replace hx101_1 := (HB.out.cell (zCq w _ hx101_1)).trans hx101_1; replace hx101_2 := (HB.out.cell (zCq w _ hx101_2)).trans hx101_2; replace hx101_3 := (HB.out.cell (zCq w _ hx101_3)).trans hx101_3; replace hx101_4 := (HB.out.cell (zCq w _ hx101_4)).trans hx101_4; have HR101_4 := zA hi101_4; have HC101_4 := zA hl101_4; clear hi101_4 hl101_4; replace p101 := eq_true p101; replace q101 := eq_true q101; go_wp2_with (first | ((with_reducible refine gate_dst (N := 6) rfl ?_); refine box_event qr (N := 6) qr (cs := #[.int .i64 0, .int .i64 0, .int .i64 0, .int .i64 0, .slice none 0 0]) (t := 216) qg ?_; intro gb102 hg w12 hbox hb; have n0_ := zA (zV qB hb); have n1_ := zA (hbox); have n2_ := zA ((qS : w.heap.size ≤ gb102)); have n3_ := zA ((qS : w.heap.size ≤ gb102)); clear HB; have HB := n0_; have BK102 := n1_; have GW102 := n2_; have GE102 := n3_; clear n0_ n1_ n2_ n3_ hb hbox hg; obtain ⟨_, _, _, _, _, _, _, _, _, _⟩ := qc5f BK102.out) | ((with_reducible refine gate_dst (N := 21) rfl ?_); refine Kd.R_lit (Kd.int .i64) _ 3 ?hg (N := 21) ?hd (xs := ([x4_1, (rd_T216 l0 x11_1).f2, (rd_T216 l0 x11_1).f3] : List Int)) (inner := [.int .i64 x4_1, .int .i64 ((rd_T216 l0 x11_1).f2), .int .i64 ((rd_T216 l0 x11_1).f3)]) (ok := fun _ => True) (okp := fun _ => True) ?hr ?hp (fun _ hk => hk) trivial (Below.refl _ _) (Nat.le_refl _) (by simp) ?_; (case hd => rfl); (case hg => rfl); (case hr => first | (go_simp; done) | (go_simp; rfl)); (case hp => exact (Reps.one (show Kd.M (Kd.int .i64) _ _ _ x4_1 [.int .i64 x4_1] from rfl) (Reps.one (show Kd.M (Kd.int .i64) _ _ _ ((rd_T216 l0 x11_1).f2) [.int .i64 ((rd_T216 l0 x11_1).f2)] from rfl) (Reps.one (show Kd.M (Kd.int .i64) _ _ _ ((rd_T216 l0 x11_1).f3) [.int .i64 ((rd_T216 l0 x11_1).f3)] from rfl) (Reps.none _ _))))); intro v104 w14 ho15 hb hg_ hnew_; clear hg_ hnew_; (first | rw [← Ny103.out] at ho15 | (simp only [Int.reduceToNat] at ho15; rw [← Ny103.out] at ho15)); have n0_ := zA (Kd.R_lower ho15 (zW qB)); have n1_ := zA (zX (g := gb102) (o := .cells #[.int .i64 ((rd_T216 l0 x11_1).f0), .int .i64 ((rd_T216 l0 x11_1).f1), .int .i64 ((rd_T216 l0 x11_1).f2), .int .i64 ((rd_T216 l0 x11_1).f3), .slice A101_4 ((rd_T216 l0 x11_1).f4).length c101_4] 216 (0, 0)) (qV BK102.out) hb); have n2_ := zA (zV qB hb); clear BK102 HB; have HO105 := n0_; have BK102 := n1_; have HB := n2_; clear n0_ n1_ n2_ hb ho15; obtain ⟨Ao16, co16, eo16⟩ := Kd.R_slice HO105.out; subst eo16) | ((with_reducible refine zJq (f := 260) rfl ?_); refine goesL_ (some 22) rfl rfl Try.func260 (by kernel_rfl) rfl #[.slice Ao16 y103.length co16] rfl (by (try simp only [zR, zS, zT]); first | done | rfl | (simp only [zP, zQ]; rfl)) ?_; (with_reducible refine (cents_Add.calls k1 _ _ y103 t106 t107 _ ?side1 ?side2 A5.out).mono ?_); (case side1 => repeat (first | exact (Kd.R_reads' HO105.out).2.2 | (with_reducible refine Kd.C_alloc ?_ _) | (with_reducible refine Kd.C_drewN ?_ _) | (with_reducible refine Kd.C_drew ?_))); (case side2 => exact (Kd.R_reads' HO105.out).2.1); rintro e w' ⟨rfl, ⟨nd, rfl⟩⟩; refine ⟨_, rfl, ?_⟩))
            go_ret2; exact ⟨qE, qB⟩
          rw [if_neg c4] at H; exact absurd H (by simp)
        rw [if_neg c3] at H; exact absurd H (by simp)
      rw [if_neg c2] at H; have c2b0 : decide (x11_1 < (l0.length : Int)) = false := zGq c2; clear c2; simp only [zNq, zOq] at H; obtain ⟨rfl, rfl⟩ := H; go_wp2; go_ret2; exact ⟨qE, qB⟩
end Go.Proofs.Ytakkhomjpflkbaa.F
set_option linter.unusedVariables false
namespace Go.Proofs.YtakkhomjpflkbaaX
open Go.RowKit Go.WideMaps
def memB (S : List ByteArray) (s : ByteArray) : Bool := S.any fun x => decide (x = s)
theorem memB_iff {S : List ByteArray} {s : ByteArray} : memB S s = true ↔ s ∈ S := by
  unfold memB
  rw [List.any_eq_true]
  exact ⟨fun ⟨x, h, e⟩ => (of_decide_eq_true e) ▸ h, fun h => ⟨s, h, decide_eq_true rfl⟩⟩
def Seen (P : Program) (k e : TypeId) (w : World) (b : Nat) (S : List ByteArray) : Prop :=
  ∃ (n : Nat) (D : DataW Unit), w.ownsMap P k (plainElem P e) b n D ∧ n ≤ S.length ∧ Maps.IsMap D ∧ ∀ s : ByteArray, s.size ≤ maxLen → D.atKey (.string s.data.toList) (.lit (.bool false)) = .lit (.bool (memB S s))
theorem plain_bool_inv {H : Type} {P : Program} {e : TypeId} (he : P.underlying e = some .bool) {v : Value} {z : DataW H × List MemPlace} (h : plainElem P e v = some z) : ∃ a, v = .bool a ∧ z = (.lit (.bool a), []) := by
  unfold plainElem at h
  rw [he] at h
  cases v <;> simp at h
  exact ⟨_, rfl, h.symm⟩
section
variable {P : Program} {k e t : TypeId} {w w' : World} {b : Nat} {S : List ByteArray}
theorem Seen.made (w : World) (P : Program) (k e : TypeId) : Seen P k e (w.alloc (.map #[] 0)) w.heap.size [] :=
  ⟨0, .map [], World.ownsMap_made _ _ _ _, Nat.le_refl _, Maps.isMap_empty, fun s _ => rfl⟩
theorem Seen.grown (h : Seen P k e w b S) {row : Option Nat} (hg : w.grownBy w' row) (hne : some b ≠ row) : Seen P k e w' b S := by
  obtain ⟨n, D, h1, h2, h3, h4⟩ := h
  exact ⟨n, D, h1.kept hg hne, h2, h3, h4⟩
theorem Seen.below (h : Seen P k e w b S) (hb : Below w.heap.size w w') : Seen P k e w' b S :=
  h.grown (row := none) ⟨hb.os, hb.tape, hb.output, hb.size, fun k hk _ => hb.block k hk⟩ (by simp)
theorem Seen.set (h : Seen P k e w b S) {p : Addr} (hne : b ≠ p.block) (u : Value) : Seen P k e (w.setCell p u) b S :=
  h.grown (row := some p.block) ⟨rfl, rfl, rfl, by simp, fun k _ hk => Below.heap_setCell w p u k (fun e => hk (by rw [e]))⟩ (fun e => hne (by injection e))
theorem Seen.lt (h : Seen P k e w b S) : b < w.heap.size := by obtain ⟨n, D, h1, _⟩ := h; exact h1.lt
theorem Seen.look (h : Seen P k e w b S) (hk : P.underlying k = some .string) (ht : P.underlying t = some (.map k e)) (he : P.underlying e = some .bool) (hz : (zeroValue e).run P w = .ok (.bool false) w) {s : ByteArray} (hs : s.size ≤ maxLen) :
    (Instr.lookup t (.map (some b)) (.string s) false).run P w = .ok (.bool (memB S s)) w := by
  obtain ⟨n, D, h1, h2, h3, h4⟩ := h
  obtain ⟨v, ps, hrun, hv⟩ := h1.lookup (Maps.string_keyed hk) ht hz (plainElem_bool he false) (keyOf_string_mk hk hs)
  obtain ⟨c, rfl, hc⟩ := plain_bool_inv he hv
  simp only [Prod.mk.injEq] at hc
  rw [h4 s hs] at hc
  obtain ⟨hc, _⟩ := hc
  injection hc with hc
  injection hc with hc
  rw [hrun, hc]
theorem Seen.put (h : Seen P k e w b S) (hk : P.underlying k = some .string) (ht : P.underlying t = some (.map k e)) (he : P.underlying e = some .bool) (hn : S.length < maxLen) {s : ByteArray} (hs : s.size ≤ maxLen) :
    ∃ w', (Instr.mapUpdate t (.map (some b)) (.string s) (.bool true)).run P w = .ok () w' ∧ Seen P k e w' b (S ++ [s]) ∧ w.grownBy w' (some b) := by
  obtain ⟨n, D, h1, h2, h3, h4⟩ := h
  obtain ⟨w', hrun, r1, r2⟩ := h1.update (Maps.string_keyed hk) ht (Nat.lt_of_le_of_lt h2 hn) (keyOf_string_mk hk hs) (plainElem_bool he true)
  refine ⟨w', hrun, ⟨n + 1, _, r1, by rw [List.length_append]; simp; omega, ?_, fun s' hs' => ?_⟩, r2⟩
  · obtain ⟨es, rfl⟩ := h3
    exact ⟨_, rfl⟩
  by_cases e : s' = s
  · subst e
    rw [Maps.atKey_put_same h3 (by trivial)]
    have h1 : memB (S ++ [s']) s' = true := memB_iff.2 (by simp)
    rw [h1]
  rw [Maps.atKey_put_other (by intro h; injection h with h; exact e (by cases s'; cases s; congr 1; exact Array.toList_inj.1 h)), h4 s' hs']
  have h1 : memB (S ++ [s]) s' = memB S s' := by
    rw [Bool.eq_iff_iff, memB_iff, memB_iff, List.mem_append, List.mem_singleton]
    exact ⟨fun h => h.resolve_right e, .inl⟩
  rw [h1]
end
theorem wpList_look_seen {P : Program} (w : World) {ops : Array Oper} {rest : List Oper} {o : Oper} {a : Act} {Q : Exit → Act → World → Prop}
    (hg : o.guard = none) (m x : Operand) (t k e : TypeId) (hop : o.op = Op.lookup t m x false) (hk : P.underlying k = some .string) (ht : P.underlying t = some (.map k e)) (he : P.underlying e = some .bool) (hz : (zeroValue e).run P w = .ok (.bool false) w)
    (b : Nat) (S : List ByteArray) (s : ByteArray) (hm : a.eval m = .map (some b)) (hS : Seen P k e w b S) (hx : a.eval x = .string s) (hs : s.size ≤ maxLen)
    (hK : wpList P ops Q rest (a.put o.dst (.bool (memB S s))) w) : wpList P ops Q (o :: rest) a w := by
  refine wpList_plain hg fun K' hK' => ?_
  have hrun := hS.look hk ht he hz hs
  unfold Oper.wp
  simp only [execOp, hop, hm, hx, Sem.run_bind, hrun, Result.andThen_ok]
  exact hK' _ _ hK
theorem wpList_put_seen {P : Program} (w : World) {ops : Array Oper} {rest : List Oper} {o : Oper} {a : Act} {Q : Exit → Act → World → Prop}
    (hg : o.guard = none) (m x v : Operand) (t k e : TypeId) (hop : o.op = Op.mapUpdate t m x v) (hk : P.underlying k = some .string) (ht : P.underlying t = some (.map k e)) (he : P.underlying e = some .bool)
    (b : Nat) (S : List ByteArray) (s : ByteArray) (hm : a.eval m = .map (some b)) (hS : Seen P k e w b S) (hx : a.eval x = .string s) (hv : a.eval v = .bool true) (hs : s.size ≤ maxLen) (hn : S.length < maxLen)
    (hK : ∀ w', Seen P k e w' b (S ++ [s]) → w.grownBy w' (some b) → wpList P ops Q rest (a.put o.dst undef) w') : wpList P ops Q (o :: rest) a w := by
  refine wpList_plain hg fun K' hK' => ?_
  obtain ⟨w', hrun, r1, r2⟩ := hS.put hk ht he hn hs
  unfold Oper.wp
  simp [execOp, hop, hm, hx, hv, hrun, Result.andThen]
  exact hK' _ _ (hK w' r1 r2)
def dupB : List ByteArray → List ByteArray → Bool
  | _, [] => false
  | S, s :: r => memB S s || dupB (S ++ [s]) r
end Go.Proofs.YtakkhomjpflkbaaX
namespace Go.Proofs.Ytakkhomjpflkbaa.F
open Go.RowKit Go.Proofs.YtakkhomjpflkbaaX Go.Proofs.YtakkhomjpflkbaaW.PrintWords Go.Proofs.YtakkhomjpflkbaaW.PrintLast Go.Proofs.YtakkhomjpflkbaaW.PrintMore
attribute [local go_sem] max2_int min2_int max_two min_two max_three min_three max_four min_four   
attribute [local go_sem high] str_geq str_leq str_gtr
set_option linter.unusedVariables false
set_option linter.unusedSimpArgs false
def serialsOf (l : List S216) : List ByteArray := l.flatMap (fun x => x.f4)
def order_twice.f (l0 : List S216) : Option Bool := if (l0.all fun x => x.f4.all fun s => decide (s.size ≤ maxLen)) = true ∧ (serialsOf l0).length < maxLen then some (dupB [] (serialsOf l0)) else none
theorem serialsOf_cons (x : S216) (l : List S216) : serialsOf (x :: l) = x.f4 ++ serialsOf l := rfl
set_option maxHeartbeats 8000000 in
set_option maxRecDepth 100000 in
theorem order_twice.calls (A0 : Option Addr) (c0 : Nat) (l0 : List S216) (r : Bool) (w : World) (hr0 : Kd.C k216 w A0 l0.length l0) (hc0 : l0.length ≤ c0) (h : order_twice.f l0 = some r) :
    Calls Try.prog 222 #[.slice A0 l0.length c0] w fun e w' => e = .returned (.bool r) ∧ Below w.heap.size w w' := by
  unfold order_twice.f at h
  by_cases hg : (l0.all fun x => x.f4.all fun s => decide (s.size ≤ maxLen)) = true ∧ (serialsOf l0).length < maxLen
  case neg => rw [if_neg hg] at h; cases h
  rw [if_pos hg] at h
  obtain ⟨hg1, hg2⟩ := hg
  have hsz : ∀ x ∈ l0, ∀ s ∈ x.f4, s.size ≤ maxLen := fun x hx s hs => by
    have h1 := List.all_eq_true.1 hg1 x hx; exact of_decide_eq_true (List.all_eq_true.1 h1 s hs)
  have HZ := zA hsz
  have H0 : Aside0 (dupB [] (serialsOf (l0.drop 0)) = r) := ⟨by rw [List.drop_zero]; exact zKq h⟩
  have HN0 : Aside0 (([] : List ByteArray).length + (serialsOf (l0.drop 0)).length < maxLen) := ⟨by rw [List.drop_zero]; simpa using hg2⟩
  clear h hg1 hg2 hsz
  have hu216 := Try.underlying216
  have hll : l0.length ≤ 9223372036854775807 := hr0.2.1
  have HR0 := zA hr0
  have HC0 := zA hc0
  clear hr0 hc0
  have hmm := fun (t : TypeId) (w : World) => run_makeMap (P := Try.prog) t w
  have hzero : ∀ W : World, (zeroValue 4).run Try.prog W = .ok (.bool false) W := fun W => by kernel_rfl
  have HZE := zA hzero
  clear hzero
  go_enter Try.func222, Try.ntmps222
  go_wp2
  have HS := zA (Seen.made w Try.prog 9 4)
  have HB : Aside0 (Below w.heap.size w (w.alloc (.map #[] 0))) := ⟨zD (Below.refl _ _) _⟩
  generalize w.alloc (.map #[] 0) = w1 at HS HB ⊢
  go_loopg [11] l0.length (fun gk v11 wr => ∃ (i : Nat) (S : List ByteArray), v11 = .int .i64 i ∧ i ≤ l0.length ∧ l0.length - i ≤ gk ∧ Aside0 (dupB S (serialsOf (l0.drop i)) = r) ∧ Aside0 (S.length + (serialsOf (l0.drop i)).length < maxLen) ∧ Aside0 (Seen Try.prog 9 4 wr w.heap.size S) ∧ Aside0 (Below w.heap.size w wr))
  case atStart => exact ⟨0, [], by go_num, Nat.zero_le _, by omega, H0, HN0, HS, HB⟩
  case round =>
    clear HS HB H0 HN0; obtain ⟨i, S, rfl, hi, hgk, H, HN, HS, HB⟩ := hrel; by_cases hlt : i < l0.length
    · have hltz : (i : Int) < (l0.length : Int) := by omega
      obtain ⟨x, hx⟩ : ∃ x, x = rd_T216 l0 (i : Int) := ⟨_, rfl⟩
      have hxi : x = l0[i] := by rw [hx]; unfold rd_T216; simp [hlt]
      have hdrop : l0.drop i = x :: l0.drop (i + 1) := by rw [hxi]; exact List.drop_eq_getElem_cons hlt
      have HX : Aside0 (∀ s ∈ x.f4, s.size ≤ maxLen) := ⟨HZ.out x (by rw [hxi]; exact List.getElem_mem hlt)⟩
      have H1 : Aside0 (dupB S (x.f4.drop 0 ++ serialsOf (l0.drop (i + 1))) = r) := ⟨by have := H.out; rw [hdrop, serialsOf_cons] at this; rw [List.drop_zero]; exact this⟩
      have HN1 : Aside0 (S.length + (x.f4.drop 0 ++ serialsOf (l0.drop (i + 1))).length < maxLen) := ⟨by have := HN.out; rw [hdrop, serialsOf_cons] at this; rw [List.drop_zero]; exact this⟩
      clear H HN hxi hdrop; have p929 : 0 ≤ (i : Int) := by omega
      obtain ⟨ad929, A929_4, c929_4, e929, hx929_0, hx929_1, hx929_2, hx929_3, hx929_4, hl929_4, hi929_4⟩ := at_T216 HR0.out (i : Int) p929 hltz; rw [← hx] at hx929_0 hx929_1 hx929_2 hx929_3 hx929_4 hl929_4 hi929_4; clear hx; cases e929
      replace hx929_0 := (HB.out.cell (zCq w _ hx929_0)).trans hx929_0; replace hx929_1 := (HB.out.cell (zCq w _ hx929_1)).trans hx929_1; replace hx929_2 := (HB.out.cell (zCq w _ hx929_2)).trans hx929_2; replace hx929_3 := (HB.out.cell (zCq w _ hx929_3)).trans hx929_3; replace hx929_4 := (HB.out.cell (zCq w _ hx929_4)).trans hx929_4; simp only [Int.toNat_natCast] at hx929_0 hx929_1 hx929_2 hx929_3 hx929_4; have hsl : x.f4.length ≤ 9223372036854775807 := hi929_4.2.1; have HR4 := zA hi929_4; have HC4 := zA hl929_4; clear hi929_4 hl929_4; go_wp2_with (first | ((with_reducible refine gate_dst (N := 5) rfl ?_); refine box_event qr (N := 5) qr (cs := #[.int .i64 0, .int .i64 0, .int .i64 0, .int .i64 0, .slice none 0 0]) (t := 216) qg ?_; intro gb930 hg w7 hbox hb; have n0_ := zA (zV HB.out hb); have n1_ := zA (hbox); have n2_ := zA ((by rw [hg]; exact HB.out.size) : w.heap.size ≤ gb930); have n3_ := zA (HS.out.below hb); have n4_ : Aside0 (w.heap.size ≠ gb930) := ⟨by rw [hg]; exact zLq HS.out.lt⟩; clear HB HS; have HB := n0_; have BK930 := n1_; have GE930 := n2_; have HS := n3_; have HNE := n4_; clear n0_ n1_ n2_ n3_ n4_ hb hbox hg; obtain ⟨hcz8_0, hcz8_1, hcz8_2, hcz8_3, hcz8_4, hfz8_0, hfz8_1, hfz8_2, hfz8_3, hfz8_4⟩ := qc5f BK930.out)); clear hx929_0 hx929_1 hx929_2 hx929_3 hx929_4; go_loopg [18] x.f4.length (fun gk2 v18 wr2 => ∃ (j : Nat) (S2 : List ByteArray), v18 = .int .i64 j ∧ j ≤ x.f4.length ∧ x.f4.length - j ≤ gk2 ∧ Aside0 (dupB S2 (x.f4.drop j ++ serialsOf (l0.drop (i + 1))) = r) ∧ Aside0 (S2.length + (x.f4.drop j ++ serialsOf (l0.drop (i + 1))).length < maxLen) ∧ Aside0 (Seen Try.prog 9 4 wr2 w.heap.size S2) ∧ Aside0 (Below w.heap.size w wr2))
      case atStart => exact ⟨0, S, by go_num, Nat.zero_le _, by omega, H1, HN1, ⟨by repeat (first | exact HS.out | refine Seen.set ?_ HNE.out _)⟩, ⟨by repeat (first | exact HB.out | refine zE ?_ GE930.out)⟩⟩
      case round =>
        clear H1 HN1 HS HB; try clear hcz8_0 hcz8_1 hcz8_2 hcz8_3 hcz8_4 hfz8_0 hfz8_1 hfz8_2 hfz8_3 hfz8_4
        obtain ⟨j, S2, rfl, hj, hgk2, H, HN, HS, HB⟩ := hrel; by_cases hlt2 : j < x.f4.length
        · have hlt2z : (j : Int) < (x.f4.length : Int) := by omega
          obtain ⟨s, hs⟩ : ∃ s, s = rdOf ByteArray.empty x.f4 (j : Int) := ⟨_, rfl⟩
          have hsj : s = x.f4[j] := by rw [hs]; unfold rdOf; simp [hlt2]
          have hdrop : x.f4.drop j = s :: x.f4.drop (j + 1) := by rw [hsj]; exact List.drop_eq_getElem_cons hlt2
          have HSS : Aside0 (s.size ≤ maxLen) := ⟨HX.out s (by rw [hsj]; exact List.getElem_mem hlt2)⟩
          have H1 := H.out; have HN1 := HN.out; rw [hdrop, List.cons_append] at H1 HN1; rw [dupB] at H1; have HL : Aside0 (S2.length < maxLen) := ⟨by rw [List.length_cons] at HN1; omega⟩
          have HN2 : Aside0 ((S2 ++ [s]).length + (x.f4.drop (j + 1) ++ serialsOf (l0.drop (i + 1))).length < maxLen) := ⟨by rw [List.length_cons] at HN1; rw [List.length_append]; simp only [List.length_singleton]; omega⟩
          clear H HN HN1 hsj hdrop; have p598 : 0 ≤ (j : Int) := by omega
          obtain ⟨ad598, e598, hx598_0⟩ := Kd.at_string HR4.out (j : Int) p598 hlt2z; rw [← hs] at hx598_0; clear hs; cases e598
          replace hx598_0 := (HB.out.cell (zCq w _ hx598_0)).trans hx598_0; simp only [Int.toNat_natCast] at hx598_0; cases hm : memB S2 s with
          | true =>
            rw [hm, Bool.true_or] at H1; subst H1; have HM := zA hm; clear hm; go_wp2_with (first | (at_lookup; refine wpList_look_seen _ rfl _ _ _ 9 4 rfl Try.underlying9 Try.underlying343 Try.underlying4 (HZE.out _) w.heap.size S2 s rfl HS.out rfl HSS.out ?_; rw [HM.out])); go_ret; exact ⟨rfl, HB.out⟩
          | false =>
            rw [hm, Bool.false_or] at H1; have H2 := zA H1; have HM := zA hm; clear hm H1; go_wp2_with (first | (at_lookup; refine wpList_look_seen _ rfl _ _ _ 9 4 rfl Try.underlying9 Try.underlying343 Try.underlying4 (HZE.out _) w.heap.size S2 s rfl HS.out rfl HSS.out ?_; rw [HM.out]) | (at_mapUpdate; refine wpList_put_seen _ rfl _ _ _ _ 9 4 rfl Try.underlying9 Try.underlying343 Try.underlying4 w.heap.size S2 s rfl HS.out rfl rfl HSS.out HL.out ?_; intro w9 hs9 hg9; have n0_ := zA hs9; have n1_ := zA (HB.out.grown hg9 HB.out.size (fun k_ hk_ => by injection hk_ with hk_; omega)); clear hs9 hg9 HS HB; have HS := n0_; have HB := n1_; clear n0_ n1_)); go_roundg (x.f4.length - (j + 1))
            case measure => omega
            case rel => exact ⟨j + 1, S2 ++ [s], by go_num, by omega, by omega, H2, HN2, HS, HB⟩
        have hlt2z : ¬ (j : Int) < (x.f4.length : Int) := by omega
        have hjl : j = x.f4.length := by omega
        have H2 : Aside0 (dupB S2 (serialsOf (l0.drop (i + 1))) = r) := ⟨by have := H.out; rw [hjl, List.drop_length, List.nil_append] at this; exact this⟩
        have HN2 : Aside0 (S2.length + (serialsOf (l0.drop (i + 1))).length < maxLen) := ⟨by have := HN.out; rw [hjl, List.drop_length, List.nil_append] at this; exact this⟩
        clear H HN hjl; go_wp2; go_roundg (l0.length - (i + 1))
        case measure => omega
        case rel => exact ⟨i + 1, S2, by go_num, by omega, by omega, H2, HN2, HS, HB⟩
    have hltz : ¬ (i : Int) < (l0.length : Int) := by omega
    have hil : i = l0.length := by omega
    have hr : r = false := by have := H.out; rw [hil, List.drop_length] at this; exact this.symm
    subst hr; clear hil; go_wp2; go_ret; exact ⟨rfl, HB.out⟩
end Go.Proofs.Ytakkhomjpflkbaa.F
