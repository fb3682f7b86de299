-- merged and pruned by prune.py (the session's own program); its words go back to the kit's print
import Derived.Below
import Derived.Deep.Draws
import Derived.Deep.AppendLies
import Derived.Maps.AppendAt
import Derived.OwnWalk
import Derived.Laws.BytesArg
import Derived.Laws.MakeOwn
import Derived.Laws.OwnMore
import Derived.Deep.OwnRows
import Derived.Tactics
import Derived.Lib.ConvBytes
import Derived.Laws.Slices
import Derived.WalkKit
import Derived.KernelRfl
import Derived.RowKit3
import Derived.Deep.LoopGhost
import Derived.Deep.QuietTactic
import Derived.BigQuiet
import Derived.WideLaws
import Derived.Deep.DeepCutAuto
import Derived.Deep.CutBlock
import Derived.Deep.RegionHeld3
import Derived.Laws.Rows
import Derived.Lib.AppendStr
import Derived.ArgAppend
import Derived.Laws.IdiomCopy
import Derived.RowKit
import Derived.OrdersHeld
import Derived.Laws.BitsLemmas
import Derived.Deep.RegionLawGrows
import Derived.Lib.SliceRun
import Derived.Test.YtdpcgigjlcpofaaProg
import Derived.Laws.StructEq
import Derived.Lib.OthersKept
import Derived.Lib.RuneCount
import Derived.Laws.Cover4
import Derived.Outline
import Derived.Shelf.Strings.Builder1
import Derived.Shelf.Strings.BuilderF
import Derived.Shelf.Strings.BuilderK
import Derived.Shelf.Utf8.RuneCount
import Derived.Shelf.Strings.Prefix
import Derived.Ground.Names2Prog
import Derived.Shelf.Slices.ReverseS
import Derived.Shelf.Slices.Clone
import Derived.Shelf.Slices.SearchI
import Derived.Shelf.Slices.Delete
import Derived.Shelf.Slices.Cells
import Derived.Shelf.Slices.Empties
import Derived.Ground.SlgnProg
import Derived.Shelf.SlicesE.Clone
import Derived.Test.YtdpcgigjlcpofaaZIndexAdds0
set_option linter.unusedVariables false
set_option linter.unusedSimpArgs false
namespace Go.Proofs.YtdpcgigjlcpofaaX
open Go.RowKit Go.Proofs.YtdpcgigjlcpofaaW.PrintWords Go.Proofs.YtdpcgigjlcpofaaW.PrintLast Go.Proofs.YtdpcgigjlcpofaaW.PrintMore
def Flat {α : Type} (d : Kd α) : Prop := ∀ (w : World) (base : Nat) (ok : Nat → Prop) (x : α) (cs : List Value), d.K w x cs → d.M w base ok x cs
theorem flat_int (k : IntKind) : Flat (Kd.int k) := fun _ _ _ _ _ h => h
theorem flat_string : Flat Kd.string := fun _ _ _ _ _ h => h
theorem C_cells {α : Type} {d : Kd α} {W : World} {ad : Addr} {n : Nat} {xs : List α} (h : d.C W (some ad) n xs) :
    ∃ inner, Reps (d.K W) d.sz xs inner ∧ ∀ j u, inner[j]? = some u → W.cell? (ad.add j) = some u := ReadsRow.inner_ h
theorem one_of_reps {α : Type} {d : Kd α} {W : World} {xs : List α} {cs : List Value} (hs0 : 0 < d.sz) (h : Reps (d.K W) d.sz xs cs) : ∀ u ∈ cs, u.oneCell' = true := by
  intro u hu
  obtain ⟨q, hq, rfl⟩ := List.mem_iff_getElem.1 hu
  have hql : q / d.sz < xs.length := by
    rw [Nat.div_lt_iff_lt_mul hs0, ← h.1]
    exact hq
  have h2 := h.2 (q / d.sz) _ (List.getElem?_eq_getElem hql)
  refine d.K_one h2 _ ?_
  have hlen := d.K_len h2
  rw [List.mem_iff_getElem]
  have hmod : q % d.sz < d.sz := Nat.mod_lt _ hs0
  refine ⟨q % d.sz, by rw [hlen]; exact hmod, ?_⟩
  rw [List.getElem_take, List.getElem_drop]
  congr 1
  rw [Nat.mul_comm]
  exact Nat.div_add_mod q d.sz
theorem step_append_full {α : Type} {P : Program} {ops : Array Oper} {o : Oper} {a : Act} {W : World} {Kc : Act → World → Prop} {Q : Exit → Act → World → Prop} {E : Prop}
    (d : Kd α) (hflat : Flat d) (hgd : o.guard = none) (s x : Operand) (t e : TypeId) (z : Value) (bytes : Nat)
    (ho : o.op = .call { callee := .builtin .append, args := #[s, x], argTypes := #[t, t] })
    (ht : P.underlying t = some (.slice e)) (hinfo : (P.info? e).map (fun i => (i.zero, i.size, i.bytes)) = some (some z, d.sz, bytes)) (hz : z.cells.size = d.sz) (hs0 : 0 < d.sz) (hb0 : 0 < bytes)
    (A : Option Addr) (n : Nat) (xs : List α) (hs : a.eval s = .slice A n n) (HC : d.C W A n xs)
    (ad : Addr) (m c : Nat) (ys : List α) (hx : a.eval x = .slice (some ad) m c) (HD : d.C W (some ad) m ys) (hm : 0 < m)
    (hl : (xs.length + ys.length) * bytes ≤ 140737488355328)
    (h : ∀ v1 w1, d.R e w1 W.heap.size (fun _ => True) v1 (xs ++ ys) → Below W.heap.size W w1 → Kc (a.put o.dst v1) w1) :
    if Region.wanted o (yielded ops a.tmps) = true then Oper.wp P o a W Kc Q else E := by
  obtain ⟨i0, hi, hzz⟩ := Option.map_eq_some_iff.1 hinfo
  simp only [Prod.mk.injEq] at hzz
  obtain ⟨hz0, hz1, hz2⟩ := hzz
  have hxn : xs.length = n := HC.1
  have hyn : ys.length = m := HD.1
  have hlen : n + m ≤ 140737488355328 := by rw [← hxn, ← hyn]; exact Nat.le_trans (Nat.le_mul_of_pos_right _ hb0) hl
  obtain ⟨news, hnr, hnc⟩ := C_cells HD
  have hone := one_of_reps hs0 hnr
  have hold : ∃ olds, Reps (d.K W) d.sz xs olds ∧ ∀ b, A = some b → ∀ j u, olds[j]? = some u → W.cell? (b.add j) = some u := by
    rcases A with _ | b
    · have h0 : n = 0 := by
        rcases Nat.eq_zero_or_pos n with h0 | h0
        · exact h0
        obtain ⟨ad, h, _⟩ := HC.2.2 h0
        cases h
      subst h0
      obtain rfl : xs = [] := List.eq_nil_of_length_eq_zero hxn
      exact ⟨[], Reps.none _ _, fun b hb => by cases hb⟩
    obtain ⟨olds, h1, h2⟩ := C_cells HC
    exact ⟨olds, h1, fun b hb => by injection hb with hb; subst hb; exact h2⟩
  obtain ⟨olds, hor, hoc⟩ := hold
  refine step_append_grows hgd s x t ho e i0 z d.sz bytes ht hi hz0 hz1 hz2 hz hs0 A n n olds hs (fun hA => ?_) (by rw [hor.1, hxn]) hoc ad m c news hx (by rw [hnr.1, hyn]) hnc hone (by omega) (by simp only [maxLen]; omega) (by rw [← hxn, ← hyn]; exact hl) ?_
  · subst hA
    rcases Nat.eq_zero_or_pos n with h0 | h0
    · exact ⟨h0, h0⟩
    obtain ⟨ad, h, _⟩ := HC.2.2 h0
    cases h
  intro v1 w1 hown hg
  have hbl : Below W.heap.size W w1 := (Below.refl _ _).grown hg (Nat.le_refl _) (fun k hk => by cases hk)
  refine h v1 w1 ⟨fun _ _ => trivial, olds ++ news, by rw [List.length_append, hxn, hyn]; exact hown, ?_⟩ hbl
  have hR : Reps (d.K w1) d.sz (xs ++ ys) (olds ++ news) := (Kd.reps_append hor hnr).imp_ (fun p cs hp => d.K_below hbl hp)
  exact hR.imp_ (fun p cs hp => hflat _ _ _ _ _ hp)
theorem cut_full {P : Program} (t e : TypeId) (kl kh : IntKind) {i : TypeInfo} (ht : P.underlying t = some (.slice e)) (hi : P.info? e = some i) (A : Option Addr) (len c n : Nat) (hn : n ≤ len) (hc : len ≤ c) :
    ∀ W, (Instr.slice t (.slice A len c) none (some (.int kl (n : Int))) (some (.int kh (n : Int)))).run P W = .ok (.slice A n n) W := by
  intro W
  have hel : P.elem t = e := by simp [Program.elem, ht]
  have ha : (A.map fun x => x.add 0) = A := by cases A <;> simp [Addr.add]
  rw [run_slice_hm W t A len c (by rw [hel]; exact ht) kl kh n n (by omega) (by omega) (by omega), hel]
  simp [sizeOf, typeInfo, hi, sliced, Result.andThen, ha]
theorem cut_from {P : Program} (t e : TypeId) (kl : IntKind) {i : TypeInfo} (ht : P.underlying t = some (.slice e)) (hi : P.info? e = some i) (size : Nat) (hsz : i.size = size) (A : Option Addr) (len c : Nat) (x : Int) (n : Nat) (hx : x = n) (hn : n ≤ len) (hc : len ≤ c) :
    ∀ W, (Instr.slice t (.slice A len c) (some (.int kl x)) none none).run P W = .ok (.slice (if c = n then A else A.map (·.add (n * size))) (len - n) (c - n)) W := by
  intro W
  subst hx
  have hel : P.elem t = e := by simp [Program.elem, ht]
  rw [run_slice_l W t A len c (by rw [hel]; exact ht) kl n (by omega) (by omega), hel]
  simp [sizeOf, typeInfo, hi, hsz, sliced, Result.andThen]
theorem C_lit1 {α : Type} {d : Kd α} {w : World} {p : α} {cs : List Value} {e : Nat} (hp : d.K w p cs) : d.C (w.alloc (.cells cs.toArray e)) (some ⟨w.heap.size, 0, none⟩) 1 [p] := by
  refine ⟨rfl, by decide, fun _ => ⟨_, rfl, fun j q hj => ?_⟩⟩
  have h0 : j = 0 := by
    have := (List.getElem?_eq_some_iff.1 hj).1
    simp at this
    omega
  subst h0
  have hq : p = q := by simpa using hj
  subst hq
  have hb : Below w.heap.size w (w.alloc (.cells cs.toArray e)) := below_alloc (Below.refl _ _) _
  refine ⟨cs, d.K_len hp, d.K_below hb hp, fun i u hu => ?_⟩
  have ho := World.ownsRow_lit (base := 0) (e := e) (size := d.sz) w cs.toArray 1 (Nat.zero_le _) (by decide) (by simpa using d.K_len hp)
  have hc := ho.cells (g := w.heap.size) rfl i u (by simpa using hu)
  have hz : (0 : Nat) * d.sz + i = i := by omega
  rw [hz]
  exact hc
theorem R_empty_lit {α : Type} (d : Kd α) (e : Nat) (w : World) : d.R e (w.alloc (.cells #[] e)) w.heap.size (fun _ => True) (.slice (some ⟨w.heap.size, 0, none⟩) 0 0) [] := by
  have ho := World.ownsRow_lit (base := w.heap.size) (e := e) (size := d.sz) w #[] 0 (Nat.le_refl _) (by decide) (by simp)
  exact ⟨fun _ _ => trivial, [], by simpa using ho, Reps.none _ _⟩
theorem x_less_cons (a b : UInt8) (x y : List UInt8) : Op.bytesLess (a :: x) (b :: y) = true ↔ a.toNat < b.toNat ∨ (a = b ∧ Op.bytesLess x y = true) := by
  simp only [Op.bytesLess, Bool.or_eq_true, Bool.and_eq_true, decide_eq_true_eq, beq_iff_eq, UInt8.lt_iff_toNat_lt]
theorem x_less_or : ∀ (a b : List UInt8), (Op.bytesLess a b || a == b) = !(Op.bytesLess b a)
  | [], [] => rfl
  | [], _ :: _ => rfl
  | _ :: _, [] => by simp [Op.bytesLess]
  | a :: x, b :: y => by
    have ih := x_less_or x y
    rw [Bool.eq_iff_iff] at ih ⊢
    rw [Bool.or_eq_true, Bool.not_eq_true', beq_iff_eq] at ih ⊢
    rw [x_less_cons, ← Bool.not_eq_true, x_less_cons]
    rw [← Bool.not_eq_true] at ih
    constructor
    · rintro ((h | ⟨rfl, h⟩) | h)
      · rintro (g | ⟨g, _⟩)
        · omega
        subst g; omega
      · rintro (g | ⟨_, g⟩)
        · omega
        exact ih.1 (.inl h) g
      injection h with h1 h2
      subst h1
      rintro (g | ⟨_, g⟩)
      · omega
      exact ih.1 (.inr h2) g
    intro h
    by_cases h1 : a.toNat < b.toNat
    · exact .inl (.inl h1)
    have h2 : a = b := by
      apply UInt8.toNat_inj.1
      have : ¬ b.toNat < a.toNat := fun g => h (.inl g)
      omega
    subst h2
    rcases ih.2 (fun g => h (.inr ⟨rfl, g⟩)) with g | g
    · exact .inl (.inr ⟨rfl, g⟩)
    exact .inr (by rw [g])
theorem str_geq (t : TypeId) (a b : ByteArray) : binOp .geq t (.string a) (.string b) = pure (.bool !(Op.bytesLess a.toList b.toList)) := by simp [binOp, Op.stringOp]
theorem str_leq (t : TypeId) (a b : ByteArray) : binOp .leq t (.string a) (.string b) = pure (.bool !(Op.bytesLess b.toList a.toList)) := by
  rw [← x_less_or]; simp [binOp, Op.stringOp]
theorem str_gtr (t : TypeId) (a b : ByteArray) : binOp .gtr t (.string a) (.string b) = pure (.bool (Op.bytesLess b.toList a.toList)) := by
  have h := x_less_or a.toList b.toList
  have h2 : (!(Op.bytesLess a.toList b.toList || a.toList == b.toList)) = Op.bytesLess b.toList a.toList := by rw [h]; simp
  rw [← h2]; simp [binOp, Op.stringOp]
end Go.Proofs.YtdpcgigjlcpofaaX
namespace Go.Proofs.Ytdpcgigjlcpofaa.F
open Go.RowKit Go.Proofs.YtdpcgigjlcpofaaX Go.Proofs.YtdpcgigjlcpofaaW.PrintWords Go.Proofs.YtdpcgigjlcpofaaW.PrintLast Go.Proofs.YtdpcgigjlcpofaaW.PrintMore
attribute [local go_sem] max2_int min2_int max_two min_two max_three min_three max_four min_four   
attribute [local go_sem high] str_geq str_leq str_gtr
set_option linter.unusedVariables false
set_option linter.unusedSimpArgs false
def errW : Option (Int × Int) → Value
  | none => .nilIface
  | some c => .iface 115 (.agg #[.int .i64 c.1, .int .i64 c.2])
theorem errW_none : errW none = .nilIface := rfl
theorem errW_some (c : Int × Int) : errW (some c) = .iface 115 (.agg #[.int .i64 c.1, .int .i64 c.2]) := rfl
theorem info3 : (Try.prog.info? 3).map (fun i => (i.zero, i.size, i.bytes)) = some (some (.int .i64 0), 1, 8) := by kernel_rfl
theorem info5 : (Try.prog.info? 5).map (fun i => (i.zero, i.size, i.bytes)) = some (some (.int .u8 0), 1, 1) := by kernel_rfl
theorem info9 : (Try.prog.info? 9).map (fun i => (i.zero, i.size, i.bytes)) = some (some (.string ⟨#[]⟩), 1, 16) := by kernel_rfl
theorem info44 : (Try.prog.info? 44).map (fun i => (i.zero, i.size, i.bytes)) = some (some (.slice none 0 0), 1, 24) := by kernel_rfl
theorem info146 : (Try.prog.info? 146).map (fun i => (i.zero, i.size, i.bytes)) = some (some (.agg #[(.string ⟨#[]⟩), (.int .i64 0)]), 2, 24) := by kernel_rfl
def rd_L14 (xs : List (List Int)) (i : Int) : (List Int) := xs.getD i.toNat ([] : List Int)
theorem at_L14 {w : World} {A : Option Addr} {n : Nat} {xs : List (List Int)} (h : Kd.C (Kd.slice 3 (Kd.int .i64)) w A n xs) (i : Int) (h0 : 0 ≤ i) (h1 : i < n) : ∃ ad A0 c0, A = some ad ∧ w.cell? (ad.add i.toNat) = some (.slice A0 (rd_L14 xs i).length c0) ∧ (rd_L14 xs i).length ≤ c0 ∧ (Kd.int .i64).C w A0 (rd_L14 xs i).length (rd_L14 xs i) := by
  obtain ⟨ad, c, e, _, hK, hc0⟩ := Kd.C_get h ([] : List Int) i h0 h1
  have hc : ∀ j u, c[j]? = some u → w.cell? (ad.add (i.toNat * 1 + j)) = some u := hc0
  obtain ⟨A0, c0, rfl, l0, g0⟩ := hK
  exact ⟨ad, A0, c0, e, by have hq := hc 0 _ rfl; rwa [Nat.mul_one, Nat.add_zero] at hq, l0, g0⟩
structure S51 where
  f0 : (List ByteArray)
  f1 : (List (List Int))
def k51 : Kd S51 := Kd.iso (Kd.pair (Kd.slice 9 Kd.string) (Kd.slice 44 (Kd.slice 3 (Kd.int .i64)))) (fun x : S51 => (x.f0, x.f1))
theorem k51_open {w : World} {x : S51} {cs : List Value} (h : k51.K w x cs) : ∃ A0 c0 A1 c1, cs = [.slice A0 x.f0.length c0, .slice A1 x.f1.length c1] ∧ x.f0.length ≤ c0 ∧ Kd.string.C w A0 x.f0.length x.f0 ∧ x.f1.length ≤ c1 ∧ (Kd.slice 3 (Kd.int .i64)).C w A1 x.f1.length x.f1 := by
  obtain ⟨_, _, rfl, ⟨A0, c0, rfl, l0, g0⟩, ⟨A1, c1, rfl, l1, g1⟩⟩ := h
  exact ⟨A0, c0, A1, c1, rfl, l0, g0, l1, g1⟩
structure S146 where
  f0 : ByteArray
  f1 : Int
def z146 : S146 := ⟨(⟨#[]⟩ : ByteArray), (0 : Int)⟩
def k146 : Kd S146 := Kd.iso (Kd.pair Kd.string (Kd.int .i64)) (fun x : S146 => (x.f0, x.f1))
theorem k146_open {w : World} {x : S146} {cs : List Value} (h : k146.K w x cs) : cs = [.string x.f0, .int .i64 x.f1] := by
  obtain ⟨_, _, rfl, rfl, rfl⟩ := h
  exact rfl
theorem k146_mkM (w : World) (base : Nat) (ok : Nat → Prop) (x : S146)  : k146.M w base ok x [.string x.f0, .int .i64 x.f1] := ⟨[.string x.f0], [.int .i64 x.f1], rfl, rfl, rfl⟩
def rd_T146 (xs : List S146) (i : Int) : S146 := xs.getD i.toNat z146
theorem at_T146 {w : World} {A : Option Addr} {n : Nat} {xs : List S146} (h : Kd.C k146 w A n xs) (i : Int) (h0 : 0 ≤ i) (h1 : i < n) : ∃ ad , A = some ad ∧ w.cell? (ad.add (i.toNat * 2)) = some (.string (rd_T146 xs i).f0) ∧ w.cell? ⟨(ad.add (i.toNat * 2)).block, (ad.add (i.toNat * 2)).off + 1, none⟩ = some (.int .i64 (rd_T146 xs i).f1) := by
  obtain ⟨ad, c, e, _, hK, hc0⟩ := Kd.C_get h z146 i h0 h1
  have hc : ∀ j u, c[j]? = some u → w.cell? (ad.add (i.toNat * 2 + j)) = some u := hc0
  obtain rfl := k146_open hK
  exact ⟨ad, e, hc 0 _ rfl, by rw [← add_field _ _ 1 (by omega)]; exact hc 1 _ rfl⟩
theorem qA {P : Prop} (h : P := by first | (with_reducible assumption) | assumption) : P := h
theorem qB {P : Prop} (h : P := by repeat (first | (with_reducible first | exact HB.out | apply below_alloc | apply pw_below_drewN | apply below_drew1 | refine below_set ?_ (Aside0.out (by assumption))) | exact HB.out)) : P := h
theorem qC {Q P : Prop} (hq : Q) (h : Q → P := by intro h_; repeat (first | exact h_ | (with_reducible refine Kd.C_alloc ?_ _) | (with_reducible refine Kd.C_drewN ?_ _) | (with_reducible refine Kd.C_drew ?_))) : P := h hq
theorem qE {P : Prop} (h : P := by first | rfl | (simp [errW_none, errW_some] <;> rfl) | (simp [*, errW_none, errW_some] <;> rfl)) : P := h
theorem qG {P : Prop} (h : P := by (try simp only [List.map_toArray, List.map_cons, List.map_nil]); first | done | rfl | (simp only [List.length_drop, List.length_take]; rfl)) : P := h
theorem qK {Q P : Prop} (hq : Q) (h : Q → P := by intro h_; (with_reducible repeat (first | refine blk_drewN ?_ _ | refine blk_drew ?_ | refine blk_alloc ?_ _)); exact h_) : P := h hq
theorem qN {P : Prop} (h : P := by first | exact Kd.R_nil _ _ _ _ _ | exact Kd.N_nil _ _ _ _ _ | exact Kd.V_nil _ _ _ _ _ | exact Kd.Q_nil _ _ _ _ _ | exact Kd.S_nil _ _ _ _ _) : P := h
theorem qP2 {w : World} {g : Nat} {t : TypeId} {v0 v1 u0 u1 : Value} (h : w.heap[g]? = some (.cells #[v0, v1] t (0, 0))) : ((w.setCell ⟨g, 0, none⟩ u0).setCell ⟨g, 1, none⟩ u1).heap[g]? = some (.cells #[u0, u1] t (0, 0)) := by refine blk_put (cs := #[u0, v1]) ?_ 1 _ rfl; refine blk_put (cs := #[v0, v1]) ?_ 0 _ rfl; exact h
theorem qS {P : Prop} (h : P := by rw [hg]; exact (below_size (by repeat (first | (with_reducible first | exact HB.out | apply below_alloc | apply pw_below_drewN | apply below_drew1 | refine below_set ?_ (Aside0.out (by assumption))) | exact HB.out)))) : P := h
theorem qc2f {w : World} {g : Nat} {t : TypeId} {v0 v1 : Value} (h : w.heap[g]? = some (.cells #[v0, v1] t (0, 0))) : w.cell? ⟨g, 0, none⟩ = some v0 ∧ w.cell? ⟨g, 1, none⟩ = some v1 ∧ w.frozen? ⟨g, 0, none⟩ = false ∧ w.frozen? ⟨g, 1, none⟩ = false := ⟨(blk_cell h 0).trans rfl, (blk_cell h 1).trans rfl, blk_frozen h 0, blk_frozen h 1⟩
theorem qg {P : Prop} (h : P := by first | (go_simp; done) | (go_simp; rfl)) : P := h
theorem qr {P : Prop} (h : P := by rfl) : P := h
theorem qy {P : Prop} (h : P := by intro w'; go_simp; with_reducible rfl) : P := h
theorem qz {P : Prop} (h : P := by simp only [Act.put, List.setIfInBounds_toArray, List.set_cons_zero, List.set_cons_succ, i64_w, i32_w]; rfl) : P := h
theorem qL {W0 W : World} {g : Nat} {o : Obj} (h0 : W0.heap[g]? = some o) (h : W0.heap[g]? = some o → W.heap[g]? = some o := by intro h_; (with_reducible repeat (first | refine blk_drewN ?_ _ | refine blk_drew ?_ | refine blk_alloc ?_ _ | apply qP2 | refine blk_far ?_ (Aside0.out (by assumption)) _)); exact h_) : g < W.heap.size := blk_lt (h h0)
theorem qV {Q P : Prop} (hq : Q) (h : Q → P := by intro h_; (with_reducible repeat (first | refine blk_drewN ?_ _ | refine blk_drew ?_ | refine blk_alloc ?_ _ | apply qP2 | refine blk_far ?_ (Aside0.out (by assumption)) _)); exact h_) : P := h hq
theorem qW {Q P : Prop} (hq : Q) (h : Q → P := by intro h_; (with_reducible repeat (first | refine blk_drewN ?_ _ | refine blk_drew ?_ | refine blk_alloc ?_ _ | apply qP2 | refine blk_far ?_ (Aside0.out (by assumption)) _)); exact h_) : P := h hq
theorem qX {W0 W w1 : World} {g : Nat} {o : Obj} (h0 : W0.heap[g]? = some o) (hb : Below W.heap.size W w1) (h : W0.heap[g]? = some o → W.heap[g]? = some o := by intro h_; (with_reducible repeat (first | refine blk_drewN ?_ _ | refine blk_drew ?_ | refine blk_alloc ?_ _ | apply qP2 | refine blk_far ?_ (Aside0.out (by assumption)) _)); exact h_) : w1.heap[g]? = some o := blk_below (h h0) hb
abbrev o1 : Bool := true
abbrev o0 : Bool := false
abbrev zA := @Aside0.mk
abbrev zB := @pw_below_drewN
abbrev zC := @below_drew1
abbrev zD := @below_alloc
abbrev zE := @below_set
abbrev zF := @blk_cell
abbrev zG := @blk_frozen
abbrev zH := @List.setIfInBounds_toArray
abbrev zI := @List.set_cons_zero
abbrev zJ := @List.set_cons_succ
abbrev zP := @List.length_drop
abbrev zQ := @List.length_take
abbrev zR := @List.map_toArray
abbrev zS := @List.map_cons
abbrev zT := @List.map_nil
abbrev zV := @below_step
abbrev zW := @below_size
abbrev zX := @blk_below
abbrev zY := @blk_drewN
abbrev zZ := @blk_alloc
abbrev zAq := @blk_drew
abbrev zCq := @World.block_lt_of_cell?
abbrev zFq := @decide_eq_true
abbrev zGq := @decide_eq_false
abbrev zJq := @gate_callee
abbrev zKq := @Option.some.inj
abbrev zLq := @Nat.ne_of_lt
abbrev zMq := @Nat.ne_of_gt
abbrev zNq := @Option.some.injEq
abbrev zOq := @Prod.mk.injEq
mutual
def backhaullaw14_Few.j0 : Nat → Bool → List ByteArray → List (List Int) → Option (Bool)
  | 0, _, _, _ => none
  | k + 1, x14, x102000, x102001 => if x14 = true then (some false) else (backhaullaw14_Few.l0 k 0 x102000 x102001)
def backhaullaw14_Few.l0 : Nat → Int → List ByteArray → List (List Int) → Option (Bool)
  | 0, _, _, _ => none
  | k + 1, x3, x102000, x102001 => if x3 < (x102001.length : Int) then (if 0 ≤ x3 then (if ((rd_L14 x102001 x3).length : Int) > 2100 then (some false) else (backhaullaw14_Few.l0 k (wrap64 (x3 + 1)) x102000 x102001)) else (none)) else (backhaullaw14_Few.l1 k 0 x102000 x102001)
def backhaullaw14_Few.l1 : Nat → Int → List ByteArray → List (List Int) → Option (Bool)
  | 0, _, _, _ => none
  | k + 1, x4, x102000, x102001 => if x4 < (x102000.length : Int) then (if 0 ≤ x4 then (if ((rdOf ByteArray.empty x102000 x4).size : Int) > 100 then (some false) else (backhaullaw14_Few.l1 k (wrap64 (x4 + 1)) x102000 x102001)) else (none)) else (some true)
end
def backhaullaw14_Few.f (k : Nat) (l0_0 : List ByteArray) (l0_1 : List (List Int)) : Option (Bool) := if (l0_0.length : Int) > 100 then (backhaullaw14_Few.j0 k true l0_0 l0_1) else (backhaullaw14_Few.j0 k (decide ((l0_1.length : Int) > 100)) l0_0 l0_1)
theorem backhaullaw14_Few.mono_l : ∀ k, (∀ y0 y1 y2, LeO (backhaullaw14_Few.j0 k y0 y1 y2) (backhaullaw14_Few.j0 (k + 1) y0 y1 y2)) ∧ (∀ y0 y1 y2, LeO (backhaullaw14_Few.l0 k y0 y1 y2) (backhaullaw14_Few.l0 (k + 1) y0 y1 y2)) ∧ (∀ y0 y1 y2, LeO (backhaullaw14_Few.l1 k y0 y1 y2) (backhaullaw14_Few.l1 (k + 1) y0 y1 y2))
  | 0 => ⟨fun _ _ _ r h => by simp [backhaullaw14_Few.j0] at h, fun _ _ _ r h => by simp [backhaullaw14_Few.l0] at h, fun _ _ _ r h => by simp [backhaullaw14_Few.l1] at h⟩
  | k + 1 => by
    obtain ⟨ih0, ih1, ih2⟩ := backhaullaw14_Few.mono_l k
    refine ⟨?_, ?_, ?_⟩
    · intro y0 y1 y2
      unfold backhaullaw14_Few.j0
      repeat' (with_reducible first | exact ih0 _ _ _ | exact ih1 _ _ _ | exact ih2 _ _ _ | exact LeO.refl _ | exact LeO.none _ | refine LeO.ite ?_ ?_ | refine LeO.bind ?_ (fun _ => ?_))
    · intro y0 y1 y2
      unfold backhaullaw14_Few.l0
      repeat' (with_reducible first | exact ih0 _ _ _ | exact ih1 _ _ _ | exact ih2 _ _ _ | exact LeO.refl _ | exact LeO.none _ | refine LeO.ite ?_ ?_ | refine LeO.bind ?_ (fun _ => ?_))
    intro y0 y1 y2
    unfold backhaullaw14_Few.l1
    repeat' (with_reducible first | exact ih0 _ _ _ | exact ih1 _ _ _ | exact ih2 _ _ _ | exact LeO.refl _ | exact LeO.none _ | refine LeO.ite ?_ ?_ | refine LeO.bind ?_ (fun _ => ?_))
theorem backhaullaw14_Few.mono : ∀ a0 a1 k, LeO (backhaullaw14_Few.f k a0 a1) (backhaullaw14_Few.f (k + 1) a0 a1) := by
  intro a0 a1 k
  obtain ⟨ih0, ih1, ih2⟩ := backhaullaw14_Few.mono_l k
  unfold backhaullaw14_Few.f
  repeat' (with_reducible first | exact ih0 _ _ _ | exact ih1 _ _ _ | exact ih2 _ _ _ | exact LeO.refl _ | exact LeO.none _ | refine LeO.ite ?_ ?_ | refine LeO.bind ?_ (fun _ => ?_))
set_option maxHeartbeats 8000000 in
set_option maxRecDepth 100000 in
theorem backhaullaw14_Few.calls (k : Nat) (A0_0 : Option Addr) (c0_0 : Nat) (l0_0 : List ByteArray) (A0_1 : Option Addr) (c0_1 : Nat) (l0_1 : List (List Int)) (r : Bool) (w : World) (hr0_0 : Kd.C Kd.string w A0_0 l0_0.length l0_0) (hc0_0 : l0_0.length ≤ c0_0) (hr0_1 : Kd.C (Kd.slice 3 (Kd.int .i64)) w A0_1 l0_1.length l0_1) (hc0_1 : l0_1.length ≤ c0_1) (h : backhaullaw14_Few.f k l0_0 l0_1 = some r) :
    Calls Try.prog 25 #[.agg #[.slice A0_0 l0_0.length c0_0, .slice A0_1 l0_1.length c0_1]] w fun e w' => e = .returned (.bool r) ∧ Below w.heap.size w w' := by
  have hu51 := Try.underlying51
  have HR0_0 := zA hr0_0
  have HC0_0 := zA hc0_0
  clear hr0_0 hc0_0
  have HR0_1 := zA hr0_1
  have HC0_1 := zA hc0_1
  clear hr0_1 hc0_1
  have HB := zA (Below.refl w.heap.size w)
  have H : (if (l0_0.length : Int) > 100 then (backhaullaw14_Few.j0 k true l0_0 l0_1) else (backhaullaw14_Few.j0 k (decide ((l0_1.length : Int) > 100)) l0_0 l0_1)) = some r := h
  clear h
  have HC2 := zA H
  clear H
  go_enter Try.func25, Try.ntmps25
  go_upto_region 1 with (first | ((with_reducible refine gate_dst (N := 1) rfl ?_); (try (refine gate_guard (by rfl) ?_; dsimp only)); refine box_event qr (N := 1) qr (cs := #[.slice A0_0 l0_0.length c0_0, .slice A0_1 l0_1.length c0_1]) (t := 51) qg ?_; intro gb101 hg w3 hbox hb; have n0_ := zA (zV qB hb); have n1_ := zA (hbox); have n2_ := zA ((qS : w.heap.size ≤ gb101)); have n3_ := zA ((qS : w.heap.size ≤ gb101)); clear HB; have HB := n0_; have BK101 := n1_; have GW101 := n2_; have GE101 := n3_; clear n0_ n1_ n2_ n3_ hb hbox hg))
  (try simp only [Act.put, zH, zI, zJ])
  go_cut [14] (fun v14 wc => ∃ (kq : Nat) (x14_1 : Bool), v14 = .bool x14_1 ∧ Aside0 (backhaullaw14_Few.j0 kq x14_1 l0_0 l0_1 = some r) ∧ Aside0 (kq ≤ k) ∧ Aside0 (wc.heap[gb101]? = some (.cells #[(.slice A0_0 l0_0.length c0_0), (.slice A0_1 l0_1.length c0_1)] 51 (0, 0))) ∧ Aside0 (Below w.heap.size w wc))
  case first =>
    have H := HC2.out; clear HC2; by_cases c4 : (l0_0.length : Int) > 100
    · rw [if_pos c4] at H
      have c4b0 : decide (100 < (l0_0.length : Int)) = true := zFq c4; have c4b1 : decide (100 < l0_0.length) = true := zFq (by omega); clear c4; (first | rw [c4b0] | (simp only [i64_w, i32_w]; rw [c4b0]) | skip)
      have H' := zA H; clear H; obtain ⟨_, _, _, _⟩ := qc2f BK101.out; go_wp2; go_meet
      case rel => exact ⟨_, (true), (by first | rfl | (simp; done) | (simp [*]; done)), H', ⟨by first | omega | exact Nat.le_refl _⟩, ⟨by exact BK101.out⟩, ⟨qB⟩⟩
    rw [if_neg c4] at H; have c4b0 : decide (100 < (l0_0.length : Int)) = false := zGq c4; have c4b1 : decide (100 < l0_0.length) = false := zGq (by omega); clear c4; (first | rw [c4b0] | (simp only [i64_w, i32_w]; rw [c4b0]) | skip)
    have H' := zA H; clear H; obtain ⟨_, _, _, _⟩ := qc2f BK101.out; go_wp2; go_meet
    case rel => exact ⟨_, (decide ((l0_1.length : Int) > 100)), (by first | rfl | (simp; done) | (simp [*]; done)), H', ⟨by first | omega | exact Nat.le_refl _⟩, ⟨by exact BK101.out⟩, ⟨qB⟩⟩
  case rest =>
    clear HC2; try clear c2
    try clear p2
    try clear c4
    try clear c4b0
    try clear c4b1
    obtain ⟨kq, x14_1, rfl, HA, HJ1, BK101, HB⟩ := hcut; cases kq with
    | zero => exact absurd HA.out (by simp [backhaullaw14_Few.j0])
    | succ kj1 =>
      have H := HA.out; clear HA; simp only [backhaullaw14_Few.j0] at H; by_cases c7 : x14_1 = true
      · subst c7
        have H1 : (some false) = some r := by first | (rw [if_pos rfl] at H; exact H) | rfl
        clear H; have H := H1; clear H1; obtain rfl := zKq H; go_wp2; go_ret; exact ⟨qE, qB⟩
      replace c7 := Bool.eq_false_iff.mpr c7; subst c7; have H1 : (backhaullaw14_Few.l0 kj1 0 l0_0 l0_1) = some r := by first | (rw [if_neg (show ¬ (false = true) by decide)] at H; exact H) | rfl
      clear H; have H := H1; clear H1; have H' := zA H; clear H; go_wp2; go_loopg [3] kj1 (fun kq v3 w' => ∃ (x3_2 : Int), v3 = .int .i64 x3_2 ∧ Aside0 (backhaullaw14_Few.l0 kq x3_2 l0_0 l0_1 = some r) ∧ Aside0 (kq ≤ kj1) ∧ Aside0 (w'.heap[gb101]? = some (.cells #[(.slice A0_0 l0_0.length c0_0), (.slice A0_1 l0_1.length c0_1)] 51 (0, 0))) ∧ Aside0 (Below w.heap.size w w'))
      case atStart => exact ⟨(0), (by first | rfl | (simp; done) | (simp [*]; done)), H', ⟨Nat.le_refl _⟩, ⟨by exact BK101.out⟩, ⟨qB⟩⟩
      case round =>
        clear H'; try clear c2
        try clear p2
        try clear c4
        try clear c4b0
        try clear c4b1
        try clear c7
        try clear p2
        obtain ⟨x3_2, rfl, HA, HK2, BK101, HB⟩ := hrel; cases gk with
        | zero => exact absurd HA.out (by simp [backhaullaw14_Few.l0])
        | succ k2 =>
          have H := HA.out; clear HA; simp only [backhaullaw14_Few.l0] at H; by_cases c8 : x3_2 < (l0_1.length : Int)
          · rw [if_pos c8] at H
            have c8b0 : decide (x3_2 < (l0_1.length : Int)) = true := zFq c8; clear c8; by_cases c9 : 0 ≤ x3_2
            · rw [if_pos c9] at H
              have c9b0 : decide (0 ≤ x3_2) = true := zFq c9; clear c9; by_cases c10 : ((rd_L14 l0_1 x3_2).length : Int) > 2100
              · rw [if_pos c10] at H
                have c10b0 : decide (2100 < ((rd_L14 l0_1 x3_2).length : Int)) = true := zFq c10; have c10b1 : decide (2100 < (rd_L14 l0_1 x3_2).length) = true := zFq (by omega); clear c10; obtain rfl := zKq H; obtain ⟨_, _, _, _⟩ := qc2f BK101.out; have p102 : 0 ≤ (x3_2 : Int) := of_decide_eq_true qA; have q102 : x3_2 < (l0_1.length : Int) := of_decide_eq_true qA; obtain ⟨ad102, A102_0, c102_0, e102, hx102_0, hl102_0, hi102_0⟩ := at_L14 HR0_1.out x3_2 p102 q102; cases e102
                replace hx102_0 := (HB.out.cell (zCq w _ hx102_0)).trans hx102_0; have HR102_0 := zA hi102_0; have HC102_0 := zA hl102_0; clear hi102_0 hl102_0; replace p102 := eq_true p102; replace q102 := eq_true q102; go_wp2; go_ret; exact ⟨qE, qB⟩
              rw [if_neg c10] at H; have c10b0 : decide (2100 < ((rd_L14 l0_1 x3_2).length : Int)) = false := zGq c10; have c10b1 : decide (2100 < (rd_L14 l0_1 x3_2).length) = false := zGq (by omega); clear c10; have H' := zA H; clear H; obtain ⟨_, _, _, _⟩ := qc2f BK101.out; have p102 : 0 ≤ (x3_2 : Int) := of_decide_eq_true qA; have q102 : x3_2 < (l0_1.length : Int) := of_decide_eq_true qA; obtain ⟨ad102, A102_0, c102_0, e102, hx102_0, hl102_0, hi102_0⟩ := at_L14 HR0_1.out x3_2 p102 q102; cases e102
              replace hx102_0 := (HB.out.cell (zCq w _ hx102_0)).trans hx102_0; have HR102_0 := zA hi102_0; have HC102_0 := zA hl102_0; clear hi102_0 hl102_0; replace p102 := eq_true p102; replace q102 := eq_true q102; go_wp2; go_roundg k2
              case measure => have := HJ1.out; have := HK2.out; omega
              case rel => exact ⟨(wrap64 (x3_2 + 1)), (by first | rfl | (simp; done) | (simp [*]; done)), H', ⟨by have := HJ1.out; have := HK2.out; omega⟩, ⟨by exact BK101.out⟩, ⟨qB⟩⟩
            rw [if_neg c9] at H; exact absurd H (by simp)
          rw [if_neg c8] at H; have c8b0 : decide (x3_2 < (l0_1.length : Int)) = false := zGq c8; clear c8; have H' := zA H; clear H; obtain ⟨_, _, _, _⟩ := qc2f BK101.out; go_wp2; go_loopg [4] k2 (fun kq v4 w' => ∃ (x4_3 : Int), v4 = .int .i64 x4_3 ∧ Aside0 (backhaullaw14_Few.l1 kq x4_3 l0_0 l0_1 = some r) ∧ Aside0 (kq ≤ k2) ∧ Aside0 (w'.heap[gb101]? = some (.cells #[(.slice A0_0 l0_0.length c0_0), (.slice A0_1 l0_1.length c0_1)] 51 (0, 0))) ∧ Aside0 (Below w.heap.size w w'))
          case atStart => exact ⟨(0), (by first | rfl | (simp; done) | (simp [*]; done)), H', ⟨Nat.le_refl _⟩, ⟨by exact BK101.out⟩, ⟨qB⟩⟩
          case round =>
            clear H'; try clear c1
            try clear p1
            try clear q1
            try clear hx1
            try clear c2
            try clear p2
            try clear c4
            try clear c4b0
            try clear c4b1
            try clear p6
            try clear c7
            try clear c8
            try clear c8b0
            try clear c9
            try clear c9b0
            try clear c10
            try clear c10b0
            try clear c10b1
            try clear p10
            try clear q10
            try clear hx10
            try clear hx102_0
            try clear p102
            try clear p2
            try clear q102
            obtain ⟨x4_3, rfl, HA, HK3, BK101, HB⟩ := hrel; cases gk with
            | zero => exact absurd HA.out (by simp [backhaullaw14_Few.l1])
            | succ k3 =>
              have H := HA.out; clear HA; simp only [backhaullaw14_Few.l1] at H; by_cases c14 : x4_3 < (l0_0.length : Int)
              · rw [if_pos c14] at H
                have c14b0 : decide (x4_3 < (l0_0.length : Int)) = true := zFq c14; clear c14; by_cases c15 : 0 ≤ x4_3
                · rw [if_pos c15] at H
                  have c15b0 : decide (0 ≤ x4_3) = true := zFq c15; clear c15; by_cases c16 : ((rdOf ByteArray.empty l0_0 x4_3).size : Int) > 100
                  · rw [if_pos c16] at H
                    have c16b0 : decide (100 < ((rdOf ByteArray.empty l0_0 x4_3).size : Int)) = true := zFq c16; have c16b1 : decide (100 < (rdOf ByteArray.empty l0_0 x4_3).size) = true := zFq (by omega); clear c16; obtain rfl := zKq H; obtain ⟨_, _, _, _⟩ := qc2f BK101.out; have p103 : 0 ≤ (x4_3 : Int) := of_decide_eq_true qA; have q103 : x4_3 < (l0_0.length : Int) := of_decide_eq_true qA; obtain ⟨ad103, e103, hx103_0⟩ := Kd.at_string HR0_0.out x4_3 p103 q103; cases e103
                    replace hx103_0 := (HB.out.cell (zCq w _ hx103_0)).trans hx103_0; replace p103 := eq_true p103; replace q103 := eq_true q103; go_wp2; go_ret; exact ⟨qE, qB⟩
                  rw [if_neg c16] at H; have c16b0 : decide (100 < ((rdOf ByteArray.empty l0_0 x4_3).size : Int)) = false := zGq c16; have c16b1 : decide (100 < (rdOf ByteArray.empty l0_0 x4_3).size) = false := zGq (by omega); clear c16; have H' := zA H; clear H; obtain ⟨_, _, _, _⟩ := qc2f BK101.out; have p103 : 0 ≤ (x4_3 : Int) := of_decide_eq_true qA; have q103 : x4_3 < (l0_0.length : Int) := of_decide_eq_true qA; obtain ⟨ad103, e103, hx103_0⟩ := Kd.at_string HR0_0.out x4_3 p103 q103; cases e103
                  replace hx103_0 := (HB.out.cell (zCq w _ hx103_0)).trans hx103_0; replace p103 := eq_true p103; replace q103 := eq_true q103; go_wp2; go_roundg k3
                  case measure => have := HJ1.out; have := HK2.out; have := HK3.out; omega
                  case rel => exact ⟨(wrap64 (x4_3 + 1)), (by first | rfl | (simp; done) | (simp [*]; done)), H', ⟨by have := HJ1.out; have := HK2.out; have := HK3.out; omega⟩, ⟨by exact BK101.out⟩, ⟨qB⟩⟩
                rw [if_neg c15] at H; exact absurd H (by simp)
              rw [if_neg c14] at H; have c14b0 : decide (x4_3 < (l0_0.length : Int)) = false := zGq c14; clear c14; obtain rfl := zKq H; obtain ⟨_, _, _, _⟩ := qc2f BK101.out; go_wp2; go_ret; exact ⟨qE, qB⟩
mutual
def rows_Rising.l0 : Nat → Int → List Int → Int → Int → Option (Int)
  | 0, _, _, _, _ => none
  | k + 1, x3, x6, x7, x8 => if x8 < x7 then (if 0 ≤ x8 then (if x8 < (x6.length : Int) then (if (rd x6 x8) < 1 then (rows_Rising.j1 k x3 (rd x6 x8) x6 x7 x8 true) else (rows_Rising.j1 k x3 (rd x6 x8) x6 x7 x8 (decide ((rd x6 x8) > 999999)))) else (none)) else (none)) else (some 0)
def rows_Rising.j1 : Nat → Int → Int → List Int → Int → Int → Bool → Option (Int)
  | 0, _, _, _, _, _, _ => none
  | k + 1, x3, x5, x6, x7, x8, x12 => if x12 = true then (some 31) else (if x5 ≤ x3 then (some 32) else (rows_Rising.l0 k x5 x6 x7 (wrap64 (x8 + 1))))
end
def rows_Rising.f (k : Nat) (l0 : List Int) : Option (Int) := rows_Rising.l0 k 0 l0 (l0.length : Int) 0
theorem rows_Rising.mono_l : ∀ k, (∀ y0 y1 y2 y3, LeO (rows_Rising.l0 k y0 y1 y2 y3) (rows_Rising.l0 (k + 1) y0 y1 y2 y3)) ∧ (∀ y0 y1 y2 y3 y4 y5, LeO (rows_Rising.j1 k y0 y1 y2 y3 y4 y5) (rows_Rising.j1 (k + 1) y0 y1 y2 y3 y4 y5))
  | 0 => ⟨fun _ _ _ _ r h => by simp [rows_Rising.l0] at h, fun _ _ _ _ _ _ r h => by simp [rows_Rising.j1] at h⟩
  | k + 1 => by
    obtain ⟨ih0, ih1⟩ := rows_Rising.mono_l k
    refine ⟨?_, ?_⟩
    · intro y0 y1 y2 y3
      unfold rows_Rising.l0
      repeat' (with_reducible first | exact ih0 _ _ _ _ | exact ih1 _ _ _ _ _ _ | exact LeO.refl _ | exact LeO.none _ | refine LeO.ite ?_ ?_ | refine LeO.bind ?_ (fun _ => ?_))
    intro y0 y1 y2 y3 y4 y5
    unfold rows_Rising.j1
    repeat' (with_reducible first | exact ih0 _ _ _ _ | exact ih1 _ _ _ _ _ _ | exact LeO.refl _ | exact LeO.none _ | refine LeO.ite ?_ ?_ | refine LeO.bind ?_ (fun _ => ?_))
theorem rows_Rising.mono : ∀ a0 k, LeO (rows_Rising.f k a0) (rows_Rising.f (k + 1) a0) := by
  intro a0 k
  obtain ⟨ih0, ih1⟩ := rows_Rising.mono_l k
  unfold rows_Rising.f
  repeat' (with_reducible first | exact ih0 _ _ _ _ | exact ih1 _ _ _ _ _ _ | exact LeO.refl _ | exact LeO.none _ | refine LeO.ite ?_ ?_ | refine LeO.bind ?_ (fun _ => ?_))
set_option maxHeartbeats 8000000 in
set_option maxRecDepth 100000 in
theorem rows_Rising.calls (k : Nat) (A0 : Option Addr) (c0 : Nat) (l0 : List Int) (r : Int) (w : World) (hr0 : Kd.C (Kd.int .i64) w A0 l0.length l0) (hc0 : l0.length ≤ c0) (h : rows_Rising.f k l0 = some r) :
    Calls Try.prog 83 #[.slice A0 l0.length c0] w fun e w' => e = .returned (.int .i64 r) ∧ Drawn0 w w' := by
  have HR0 := zA hr0
  have HC0 := zA hc0
  clear hr0 hc0
  have H : (rows_Rising.l0 k 0 l0 (l0.length : Int) 0) = some r := h
  clear h
  have H' := zA H
  clear H
  go_enter Try.func83, Try.ntmps83
  go_wp2
  go_loopg [3, 8] k (fun kq v3 v8 w' => ∃ (x3_1 : Int) (x8_1 : Int), v3 = .int .i64 x3_1 ∧ v8 = .int .i64 x8_1 ∧ Aside0 (rows_Rising.l0 kq x3_1 l0 (l0.length : Int) x8_1 = some r) ∧ Aside0 (kq ≤ k) ∧ Drawn0 w w')
  case atStart => exact ⟨(0), (0), (by first | rfl | (simp; done) | (simp [*]; done)), (by first | rfl | (simp; done) | (simp [*]; done)), H', ⟨Nat.le_refl _⟩, by repeat (first | exact Drawn0.refl _ | apply Drawn0.step)⟩
  case round =>
    clear H'; obtain ⟨x3_1, x8_1, rfl, rfl, HA, HK1, ⟨m1, rfl⟩⟩ := hrel; cases gk with
    | zero => exact absurd HA.out (by simp [rows_Rising.l0])
    | succ k1 =>
      have H := HA.out; clear HA; simp only [rows_Rising.l0] at H; by_cases c2 : x8_1 < (l0.length : Int)
      · rw [if_pos c2] at H
        have c2b0 : decide (x8_1 < (l0.length : Int)) = true := zFq c2; clear c2; by_cases c3 : 0 ≤ x8_1
        · rw [if_pos c3] at H
          have c3b0 : decide (0 ≤ x8_1) = true := zFq c3; clear c3; by_cases c4 : x8_1 < (l0.length : Int)
          · rw [if_pos c4] at H
            have c4b0 : decide (x8_1 < (l0.length : Int)) = true := zFq c4; clear c4; have HC5 := zA H; clear H; have p101 : 0 ≤ (x8_1 : Int) := of_decide_eq_true qA; have q101 : x8_1 < (l0.length : Int) := of_decide_eq_true qA; obtain ⟨ad101, e101, hx101_0⟩ := Kd.at_int HR0.out x8_1 p101 q101; cases e101
            replace p101 := eq_true p101; replace q101 := eq_true q101; go_upto_region 5 with (fail)
            go_cut [12] (fun v12 wc => ∃ (kq : Nat) (x12_4 : Bool), v12 = .bool x12_4 ∧ Aside0 (rows_Rising.j1 kq x3_1 (rd l0 x8_1) l0 (l0.length : Int) x8_1 x12_4 = some r) ∧ Aside0 (kq ≤ k1) ∧ Drawn0 w wc)
            case first =>
              have H := HC5.out; clear HC5; by_cases c6 : (rd l0 x8_1) < 1
              · rw [if_pos c6] at H
                have c6b0 : decide ((rd l0 x8_1) < 1) = true := zFq c6; clear c6; (first | rw [c6b0] | (simp only [i64_w, i32_w]; rw [c6b0]) | skip)
                have H' := zA H; clear H; go_wp2; go_meet
                case rel => exact ⟨_, (true), (by first | rfl | (simp; done) | (simp [*]; done)), H', ⟨by have := HK1.out; first | omega | exact Nat.le_refl _⟩, by repeat (first | exact Drawn0.refl _ | apply Drawn0.step)⟩
              rw [if_neg c6] at H; have c6b0 : decide ((rd l0 x8_1) < 1) = false := zGq c6; clear c6; (first | rw [c6b0] | (simp only [i64_w, i32_w]; rw [c6b0]) | skip)
              have H' := zA H; clear H; go_wp2; go_meet
              case rel => exact ⟨_, (decide ((rd l0 x8_1) > 999999)), (by first | rfl | (simp; done) | (simp [*]; done)), H', ⟨by have := HK1.out; first | omega | exact Nat.le_refl _⟩, by repeat (first | exact Drawn0.refl _ | apply Drawn0.step)⟩
            case rest =>
              clear HC5; try clear p1
              try clear q1
              try clear hx1
              try clear c2
              try clear c2b0
              try clear p2
              try clear c3
              try clear c3b0
              try clear c4
              try clear c4b0
              try clear c6
              try clear c6b0
              try clear hx101_0
              try clear p101
              try clear q101
              obtain ⟨kq, x12_4, rfl, HA, HJ4, ⟨mc4, rfl⟩⟩ := hcut; cases kq with
              | zero => exact absurd HA.out (by simp [rows_Rising.j1])
              | succ kj4 =>
                have H := HA.out; clear HA; simp only [rows_Rising.j1] at H; by_cases c7 : x12_4 = true
                · subst c7
                  have H1 : (some 31) = some r := by first | (rw [if_pos rfl] at H; exact H) | rfl
                  clear H; have H := H1; clear H1; obtain rfl := zKq H; go_wp2; go_ret; exact ⟨by first | rfl | (simp; done) | (simp [*]; done), by repeat (first | exact Drawn0.refl _ | apply Drawn0.step)⟩
                replace c7 := Bool.eq_false_iff.mpr c7; subst c7; have H1 : (if (rd l0 x8_1) ≤ x3_1 then (some 32) else (rows_Rising.l0 kj4 (rd l0 x8_1) l0 (l0.length : Int) (wrap64 (x8_1 + 1)))) = some r := by first | (rw [if_neg (show ¬ (false = true) by decide)] at H; exact H) | rfl
                clear H; have H := H1; clear H1; by_cases c8 : (rd l0 x8_1) ≤ x3_1
                · rw [if_pos c8] at H
                  have c8b0 : decide ((rd l0 x8_1) ≤ x3_1) = true := zFq c8; clear c8; obtain rfl := zKq H; go_wp2; go_ret; exact ⟨by first | rfl | (simp; done) | (simp [*]; done), by repeat (first | exact Drawn0.refl _ | apply Drawn0.step)⟩
                rw [if_neg c8] at H; have c8b0 : decide ((rd l0 x8_1) ≤ x3_1) = false := zGq c8; clear c8; have H' := zA H; clear H; go_wp2; go_roundg kj4
                case measure => have := HK1.out; have := HJ4.out; omega
                case rel => exact ⟨((rd l0 x8_1)), (wrap64 (x8_1 + 1)), (by first | rfl | (simp; done) | (simp [*]; done)), (by first | rfl | (simp; done) | (simp [*]; done)), H', ⟨by have := HK1.out; have := HJ4.out; omega⟩, by repeat (first | exact Drawn0.refl _ | apply Drawn0.step)⟩
          rw [if_neg c4] at H; exact absurd H (by simp)
        rw [if_neg c3] at H; exact absurd H (by simp)
      rw [if_neg c2] at H; have c2b0 : decide (x8_1 < (l0.length : Int)) = false := zGq c2; clear c2; obtain rfl := zKq H; go_wp2; go_ret; exact ⟨by first | rfl | (simp; done) | (simp [*]; done), by repeat (first | exact Drawn0.refl _ | apply Drawn0.step)⟩
def index_Check_1.f (k : Nat) (l0 : List Int) : Option (Bool) := if (l0.length : Int) = 0 then (some true) else ((rows_Rising.f k l0).bind fun t101 => (some (t101 != 0)))
theorem index_Check_1.mono : ∀ a0 k, LeO (index_Check_1.f k a0) (index_Check_1.f (k + 1) a0) := by
  intro a0 k
  unfold index_Check_1.f
  repeat' (with_reducible first | exact rows_Rising.mono _ _ | exact LeO.refl _ | exact LeO.none _ | refine LeO.ite ?_ ?_ | refine LeO.bind ?_ (fun _ => ?_))
set_option maxHeartbeats 8000000 in
set_option maxRecDepth 100000 in
theorem index_Check_1.calls (k : Nat) (A0 : Option Addr) (c0 : Nat) (l0 : List Int) (r : Bool) (w : World) (hr0 : Kd.C (Kd.int .i64) w A0 l0.length l0) (hc0 : l0.length ≤ c0) (h : index_Check_1.f k l0 = some r) :
    Calls Try.prog 82 #[.slice A0 l0.length c0] w fun e w' => e = .returned (.bool r) ∧ Drawn0 w w' := by
  have HR0 := zA hr0
  have HC0 := zA hc0
  clear hr0 hc0
  have H : (if (l0.length : Int) = 0 then (some true) else ((rows_Rising.f k l0).bind fun t101 => (some (t101 != 0)))) = some r := h
  clear h
  by_cases c2 : (l0.length : Int) = 0
  · rw [if_pos c2] at H
    have c2b0 : ((l0.length : Int) == 0) = true := beq_iff_eq.mpr c2; have c2b1 : ((l0.length : Int) != 0) = false := bne_eq_false_iff_eq.mpr c2; clear c2; obtain rfl := zKq H; go_enter Try.func82, Try.ntmps82; go_wp2; go_ret; exact ⟨by first | rfl | (simp; done) | (simp [*]; done), by repeat (first | exact Drawn0.refl _ | apply Drawn0.step)⟩
  rw [if_neg c2] at H
  have c2b0 : ((l0.length : Int) == 0) = false := beq_eq_false_iff_ne.mpr c2
  have c2b1 : ((l0.length : Int) != 0) = true := bne_iff_ne.mpr c2
  have c2b2 : ¬ (l0 = []) := fun h_ => c2 (by rw [h_]; rfl)
  replace H := Option.bind_eq_some_iff.mp H
  obtain ⟨t101, A30, H⟩ := H
  try dsimp only at H
  have A3 := zA A30
  clear A30
  obtain rfl := zKq H
  go_enter Try.func82, Try.ntmps82
  go_wp2_with (first | (go_at_call 83; (with_reducible refine (rows_Rising.calls k _ _ l0 t101 _ ?side1 ?side2 A3.out).mono ?_); (case side1 => repeat (first | exact HR0.out | (with_reducible refine Kd.C_alloc ?_ _) | (with_reducible refine Kd.C_drewN ?_ _) | (with_reducible refine Kd.C_drew ?_))); (case side2 => exact HC0.out); rintro e w' ⟨rfl, ⟨nd, rfl⟩⟩))
  go_ret
  exact ⟨by first | rfl | (simp; done) | (simp [*]; done), by repeat (first | exact Drawn0.refl _ | apply Drawn0.step)⟩
def slices_IndexFunc_index_Check_1.l0 : Nat → List (List Int) → Int → Int → Option (Int)
  | 0, _, _, _ => none
  | k + 1, x0, x7, x8 => if x8 < x7 then (if 0 ≤ x8 then (if x8 < (x0.length : Int) then ((index_Check_1.f k (rd_L14 x0 x8)).bind fun t102 => (if t102 = true then (some x8) else (slices_IndexFunc_index_Check_1.l0 k x0 x7 (wrap64 (x8 + 1))))) else (none)) else (none)) else (some (-1))
def slices_IndexFunc_index_Check_1.f (k : Nat) (l0 : List (List Int))  : Option (Int) := slices_IndexFunc_index_Check_1.l0 k l0 (l0.length : Int) 0
theorem slices_IndexFunc_index_Check_1.mono_l : ∀ k, (∀ y0 y1 y2, LeO (slices_IndexFunc_index_Check_1.l0 k y0 y1 y2) (slices_IndexFunc_index_Check_1.l0 (k + 1) y0 y1 y2))
  | 0 => fun _ _ _ r h => by simp [slices_IndexFunc_index_Check_1.l0] at h
  | k + 1 => by
    have ih0 := slices_IndexFunc_index_Check_1.mono_l k
    intro y0 y1 y2
    unfold slices_IndexFunc_index_Check_1.l0
    repeat' (with_reducible first | exact ih0 _ _ _ | exact index_Check_1.mono _ _ | exact LeO.refl _ | exact LeO.none _ | refine LeO.ite ?_ ?_ | refine LeO.bind ?_ (fun _ => ?_))
theorem slices_IndexFunc_index_Check_1.mono : ∀ a0 k, LeO (slices_IndexFunc_index_Check_1.f k a0) (slices_IndexFunc_index_Check_1.f (k + 1) a0) := by
  intro a0 k
  have ih0 := slices_IndexFunc_index_Check_1.mono_l k
  unfold slices_IndexFunc_index_Check_1.f
  repeat' (with_reducible first | exact ih0 _ _ _ | exact index_Check_1.mono _ _ | exact LeO.refl _ | exact LeO.none _ | refine LeO.ite ?_ ?_ | refine LeO.bind ?_ (fun _ => ?_))
set_option maxHeartbeats 8000000 in
set_option maxRecDepth 100000 in
theorem slices_IndexFunc_index_Check_1.calls (k : Nat) (A0 : Option Addr) (c0 : Nat) (l0 : List (List Int))  (r : Int) (w : World) (hr0 : Kd.C (Kd.slice 3 (Kd.int .i64)) w A0 l0.length l0) (hc0 : l0.length ≤ c0) (h : slices_IndexFunc_index_Check_1.f k l0 = some r) :
    Calls Try.prog 130 #[.slice A0 l0.length c0, .func (.func 82) #[] #[]] w fun e w' => e = .returned (.int .i64 r) ∧ Drawn0 w w' := by
  have HR0 := zA hr0
  have HC0 := zA hc0
  clear hr0 hc0
  have H : (slices_IndexFunc_index_Check_1.l0 k l0 (l0.length : Int) 0) = some r := h
  clear h
  have H' := zA H
  clear H
  go_enter Try.func130, Try.ntmps130
  go_wp2
  go_loopg [8] k (fun kq v8 w' => ∃ (x8_1 : Int), v8 = .int .i64 x8_1 ∧ Aside0 (slices_IndexFunc_index_Check_1.l0 kq l0 (l0.length : Int) x8_1 = some r) ∧ Aside0 (kq ≤ k) ∧ Drawn0 w w')
  case atStart => exact ⟨(0), (by first | rfl | (simp; done) | (simp [*]; done)), H', ⟨Nat.le_refl _⟩, by repeat (first | exact Drawn0.refl _ | apply Drawn0.step)⟩
  case round =>
    clear H'; try clear p2
    obtain ⟨x8_1, rfl, HA, HK1, ⟨m1, rfl⟩⟩ := hrel; cases gk with
    | zero => exact absurd HA.out (by simp [slices_IndexFunc_index_Check_1.l0])
    | succ k1 =>
      have H := HA.out; clear HA; simp only [slices_IndexFunc_index_Check_1.l0] at H; by_cases c3 : x8_1 < (l0.length : Int)
      · rw [if_pos c3] at H
        have c3b0 : decide (x8_1 < (l0.length : Int)) = true := zFq c3; clear c3; by_cases c4 : 0 ≤ x8_1
        · rw [if_pos c4] at H
          have c4b0 : decide (0 ≤ x8_1) = true := zFq c4; clear c4; by_cases c5 : x8_1 < (l0.length : Int)
          · rw [if_pos c5] at H
            have c5b0 : decide (x8_1 < (l0.length : Int)) = true := zFq c5; clear c5; replace H := Option.bind_eq_some_iff.mp H; obtain ⟨t102, A60, H⟩ := H; try dsimp only at H
            have A6 := zA A60; clear A60; by_cases c7 : t102 = true
            · subst c7
              have H1 : (some x8_1) = some r := by first | (rw [if_pos rfl] at H; exact H) | rfl
              clear H; have H := H1; clear H1; obtain rfl := zKq H; have p101 : 0 ≤ (x8_1 : Int) := of_decide_eq_true qA; have q101 : x8_1 < (l0.length : Int) := of_decide_eq_true qA; obtain ⟨ad101, A101_0, c101_0, e101, hx101_0, hl101_0, hi101_0⟩ := at_L14 HR0.out x8_1 p101 q101; cases e101
              have HR101_0 := zA hi101_0; have HC101_0 := zA hl101_0; clear hi101_0 hl101_0; replace p101 := eq_true p101; replace q101 := eq_true q101; go_wp2_with (first | (go_at_call 82; (with_reducible refine (index_Check_1.calls k1 _ _ (rd_L14 l0 x8_1) true _ ?side1 ?side2 A6.out).mono ?_); (case side1 => repeat (first | exact HR101_0.out | (with_reducible refine Kd.C_alloc ?_ _) | (with_reducible refine Kd.C_drewN ?_ _) | (with_reducible refine Kd.C_drew ?_))); (case side2 => exact HC101_0.out); rintro e w' ⟨rfl, ⟨nd, rfl⟩⟩)); go_ret; exact ⟨by first | rfl | (simp; done) | (simp [*]; done), by repeat (first | exact Drawn0.refl _ | apply Drawn0.step)⟩
            replace c7 := Bool.eq_false_iff.mpr c7; subst c7; have H1 : (slices_IndexFunc_index_Check_1.l0 k1 l0 (l0.length : Int) (wrap64 (x8_1 + 1))) = some r := by first | (rw [if_neg (show ¬ (false = true) by decide)] at H; exact H) | rfl
            clear H; have H := H1; clear H1; have H' := zA H; clear H; have p101 : 0 ≤ (x8_1 : Int) := of_decide_eq_true qA; have q101 : x8_1 < (l0.length : Int) := of_decide_eq_true qA; obtain ⟨ad101, A101_0, c101_0, e101, hx101_0, hl101_0, hi101_0⟩ := at_L14 HR0.out x8_1 p101 q101; cases e101
            have HR101_0 := zA hi101_0; have HC101_0 := zA hl101_0; clear hi101_0 hl101_0; replace p101 := eq_true p101; replace q101 := eq_true q101; go_wp2_with (first | (go_at_call 82; (with_reducible refine (index_Check_1.calls k1 _ _ (rd_L14 l0 x8_1) false _ ?side1 ?side2 A6.out).mono ?_); (case side1 => repeat (first | exact HR101_0.out | (with_reducible refine Kd.C_alloc ?_ _) | (with_reducible refine Kd.C_drewN ?_ _) | (with_reducible refine Kd.C_drew ?_))); (case side2 => exact HC101_0.out); rintro e w' ⟨rfl, ⟨nd, rfl⟩⟩)); go_roundg k1
            case measure => have := HK1.out; omega
            case rel => exact ⟨(wrap64 (x8_1 + 1)), (by first | rfl | (simp; done) | (simp [*]; done)), H', ⟨by have := HK1.out; omega⟩, by repeat (first | exact Drawn0.refl _ | apply Drawn0.step)⟩
          rw [if_neg c5] at H; exact absurd H (by simp)
        rw [if_neg c4] at H; exact absurd H (by simp)
      rw [if_neg c3] at H; have c3b0 : decide (x8_1 < (l0.length : Int)) = false := zGq c3; clear c3; obtain rfl := zKq H; go_wp2; go_ret; exact ⟨by first | rfl | (simp; done) | (simp [*]; done), by repeat (first | exact Drawn0.refl _ | apply Drawn0.step)⟩
def slices_ContainsFunc_index_Check_1.f (k : Nat) (l0 : List (List Int))  : Option (Bool) := (slices_IndexFunc_index_Check_1.f k l0).bind fun t101 => (some (decide (t101 ≥ 0)))
theorem slices_ContainsFunc_index_Check_1.mono : ∀ a0 k, LeO (slices_ContainsFunc_index_Check_1.f k a0) (slices_ContainsFunc_index_Check_1.f (k + 1) a0) := by
  intro a0 k
  unfold slices_ContainsFunc_index_Check_1.f
  repeat' (with_reducible first | exact slices_IndexFunc_index_Check_1.mono _ _ | exact LeO.refl _ | exact LeO.none _ | refine LeO.ite ?_ ?_ | refine LeO.bind ?_ (fun _ => ?_))
set_option maxHeartbeats 8000000 in
set_option maxRecDepth 100000 in
theorem slices_ContainsFunc_index_Check_1.calls (k : Nat) (A0 : Option Addr) (c0 : Nat) (l0 : List (List Int))  (r : Bool) (w : World) (hr0 : Kd.C (Kd.slice 3 (Kd.int .i64)) w A0 l0.length l0) (hc0 : l0.length ≤ c0) (h : slices_ContainsFunc_index_Check_1.f k l0 = some r) :
    Calls Try.prog 84 #[.slice A0 l0.length c0, .func (.func 82) #[] #[]] w fun e w' => e = .returned (.bool r) ∧ Drawn0 w w' := by
  have HR0 := zA hr0
  have HC0 := zA hc0
  clear hr0 hc0
  have H : ((slices_IndexFunc_index_Check_1.f k l0).bind fun t101 => (some (decide (t101 ≥ 0)))) = some r := h
  clear h
  replace H := Option.bind_eq_some_iff.mp H
  obtain ⟨t101, A30, H⟩ := H
  try dsimp only at H
  have A3 := zA A30
  clear A30
  obtain rfl := zKq H
  go_enter Try.func84, Try.ntmps84
  go_wp2_with (first | (go_at_call 130; (with_reducible refine (slices_IndexFunc_index_Check_1.calls k _ _ l0  t101 _ ?side1 ?side2 A3.out).mono ?_); (case side1 => repeat (first | exact HR0.out | (with_reducible refine Kd.C_alloc ?_ _) | (with_reducible refine Kd.C_drewN ?_ _) | (with_reducible refine Kd.C_drew ?_))); (case side2 => exact HC0.out); rintro e w' ⟨rfl, ⟨nd, rfl⟩⟩))
  go_ret
  exact ⟨by first | rfl | (simp; done) | (simp [*]; done), by repeat (first | exact Drawn0.refl _ | apply Drawn0.step)⟩
def serial_folded.f (a0 : Int) : Option (Int) := if a0 ≥ 97 then (if a0 ≤ 122 then (some (wrap32 ((wrap32 (a0 - 97)) + 65))) else (some a0)) else (some a0)
set_option maxHeartbeats 8000000 in
set_option maxRecDepth 100000 in
theorem serial_folded.calls (a0 : Int) (r : Int) (w : World) (h : serial_folded.f a0 = some r) :
    Calls Try.prog 155 #[.int .i32 a0] w fun e w' => e = .returned (.int .i32 r) ∧ Drawn0 w w' := by
  have H : (if a0 ≥ 97 then (if a0 ≤ 122 then (some (wrap32 ((wrap32 (a0 - 97)) + 65))) else (some a0)) else (some a0)) = some r := h
  clear h
  by_cases c2 : a0 ≥ 97
  · rw [if_pos c2] at H
    have c2b0 : decide (97 ≤ a0) = true := zFq c2; clear c2; by_cases c3 : a0 ≤ 122
    · rw [if_pos c3] at H
      have c3b0 : decide (a0 ≤ 122) = true := zFq c3; clear c3; obtain rfl := zKq H; go_enter Try.func155, Try.ntmps155; go_wp2; go_ret; exact ⟨by first | rfl | (simp; done) | (simp [*]; done), by repeat (first | exact Drawn0.refl _ | apply Drawn0.step)⟩
    rw [if_neg c3] at H; have c3b0 : decide (a0 ≤ 122) = false := zGq c3; clear c3; obtain rfl := zKq H; go_enter Try.func155, Try.ntmps155; go_wp2; go_ret; exact ⟨by first | rfl | (simp; done) | (simp [*]; done), by repeat (first | exact Drawn0.refl _ | apply Drawn0.step)⟩
  rw [if_neg c2] at H
  have c2b0 : decide (97 ≤ a0) = false := zGq c2
  clear c2
  obtain rfl := zKq H
  go_enter Try.func155, Try.ntmps155
  go_wp2
  go_ret
  exact ⟨by first | rfl | (simp; done) | (simp [*]; done), by repeat (first | exact Drawn0.refl _ | apply Drawn0.step)⟩
mutual
def serial_Class.j0 : Nat → Int → Bool → Option (Int)
  | 0, _, _ => none
  | k + 1, x0, x3 => if x3 = true then (some 1) else (if x0 ≥ 48 then (serial_Class.j1 k x0 (decide (x0 ≤ 57))) else (serial_Class.j1 k x0 false))
def serial_Class.j1 : Nat → Int → Bool → Option (Int)
  | 0, _, _ => none
  | k + 1, x0, x18 => if x18 = true then (some 2) else (if x0 = 45 then (some 3) else (some 0))
end
def serial_Class.f (k : Nat) (a0 : Int) : Option (Int) := if a0 ≥ 97 then (if a0 ≤ 122 then (serial_Class.j0 k a0 true) else (if a0 ≥ 65 then (serial_Class.j0 k a0 (decide (a0 ≤ 90))) else (serial_Class.j0 k a0 false))) else (if a0 ≥ 65 then (serial_Class.j0 k a0 (decide (a0 ≤ 90))) else (serial_Class.j0 k a0 false))
set_option maxHeartbeats 8000000 in
set_option maxRecDepth 100000 in
theorem serial_Class.calls (k : Nat) (a0 : Int) (r : Int) (w : World) (h : serial_Class.f k a0 = some r) :
    Calls Try.prog 169 #[.int .i32 a0] w fun e w' => e = .returned (.int .i64 r) ∧ Drawn0 w w' := by
  have H : (if a0 ≥ 97 then (if a0 ≤ 122 then (serial_Class.j0 k a0 true) else (if a0 ≥ 65 then (serial_Class.j0 k a0 (decide (a0 ≤ 90))) else (serial_Class.j0 k a0 false))) else (if a0 ≥ 65 then (serial_Class.j0 k a0 (decide (a0 ≤ 90))) else (serial_Class.j0 k a0 false))) = some r := h
  clear h
  have HC2 := zA H
  clear H
  go_enter Try.func169, Try.ntmps169
  go_upto_region 1 with (fail)
  go_cut [3] (fun v3 wc => ∃ (kq : Nat) (x3_1 : Bool), v3 = .bool x3_1 ∧ Aside0 (serial_Class.j0 kq a0 x3_1 = some r) ∧ Aside0 (kq ≤ k) ∧ Drawn0 w wc)
  case first =>
    have H := HC2.out; clear HC2; by_cases c3 : a0 ≥ 97
    · rw [if_pos c3] at H
      have c3b0 : decide (97 ≤ a0) = true := zFq c3; clear c3; (first | rw [c3b0] | (simp only [i64_w, i32_w]; rw [c3b0]) | skip)
      by_cases c4 : a0 ≤ 122
      · rw [if_pos c4] at H
        have c4b0 : decide (a0 ≤ 122) = true := zFq c4; clear c4; have H' := zA H; clear H; go_wp2; go_meet
        case rel => exact ⟨_, (true), (by first | rfl | (simp; done) | (simp [*]; done)), H', ⟨by first | omega | exact Nat.le_refl _⟩, by repeat (first | exact Drawn0.refl _ | apply Drawn0.step)⟩
      rw [if_neg c4] at H; have c4b0 : decide (a0 ≤ 122) = false := zGq c4; clear c4; by_cases c5 : a0 ≥ 65
      · rw [if_pos c5] at H
        have c5b0 : decide (65 ≤ a0) = true := zFq c5; clear c5; have H' := zA H; clear H; go_wp2; go_meet
        case rel => exact ⟨_, (decide (a0 ≤ 90)), (by first | rfl | (simp; done) | (simp [*]; done)), H', ⟨by first | omega | exact Nat.le_refl _⟩, by repeat (first | exact Drawn0.refl _ | apply Drawn0.step)⟩
      rw [if_neg c5] at H; have c5b0 : decide (65 ≤ a0) = false := zGq c5; clear c5; have H' := zA H; clear H; go_wp2; go_meet
      case rel => exact ⟨_, (false), (by first | rfl | (simp; done) | (simp [*]; done)), H', ⟨by first | omega | exact Nat.le_refl _⟩, by repeat (first | exact Drawn0.refl _ | apply Drawn0.step)⟩
    rw [if_neg c3] at H; have c3b0 : decide (97 ≤ a0) = false := zGq c3; clear c3; (first | rw [c3b0] | (simp only [i64_w, i32_w]; rw [c3b0]) | skip)
    by_cases c6 : a0 ≥ 65
    · rw [if_pos c6] at H
      have c6b0 : decide (65 ≤ a0) = true := zFq c6; clear c6; have H' := zA H; clear H; go_wp2; go_meet
      case rel => exact ⟨_, (decide (a0 ≤ 90)), (by first | rfl | (simp; done) | (simp [*]; done)), H', ⟨by first | omega | exact Nat.le_refl _⟩, by repeat (first | exact Drawn0.refl _ | apply Drawn0.step)⟩
    rw [if_neg c6] at H; have c6b0 : decide (65 ≤ a0) = false := zGq c6; clear c6; have H' := zA H; clear H; go_wp2; go_meet
    case rel => exact ⟨_, (false), (by first | rfl | (simp; done) | (simp [*]; done)), H', ⟨by first | omega | exact Nat.le_refl _⟩, by repeat (first | exact Drawn0.refl _ | apply Drawn0.step)⟩
  case rest =>
    clear HC2; try clear c1
    try clear p2
    try clear c3
    try clear c3b0
    try clear c4
    try clear c4b0
    try clear c5
    try clear c5b0
    try clear c6
    try clear c6b0
    obtain ⟨kq, x3_1, rfl, HA, HJ1, ⟨mc1, rfl⟩⟩ := hcut; cases kq with
    | zero => exact absurd HA.out (by simp [serial_Class.j0])
    | succ kj1 =>
      have H := HA.out; clear HA; simp only [serial_Class.j0] at H; by_cases c7 : x3_1 = true
      · subst c7
        have H1 : (some 1) = some r := by first | (rw [if_pos rfl] at H; exact H) | rfl
        clear H; have H := H1; clear H1; obtain rfl := zKq H; go_wp2; go_ret; exact ⟨by first | rfl | (simp; done) | (simp [*]; done), by repeat (first | exact Drawn0.refl _ | apply Drawn0.step)⟩
      replace c7 := Bool.eq_false_iff.mpr c7; subst c7; have H1 : (if a0 ≥ 48 then (serial_Class.j1 kj1 a0 (decide (a0 ≤ 57))) else (serial_Class.j1 kj1 a0 false)) = some r := by first | (rw [if_neg (show ¬ (false = true) by decide)] at H; exact H) | rfl
      clear H; have H := H1; clear H1; have HC8 := zA H; clear H; go_upto_region 3 with (fail)
      go_cut [18] (fun v18 wc => ∃ (kq : Nat) (x18_7 : Bool), v18 = .bool x18_7 ∧ Aside0 (serial_Class.j1 kq a0 x18_7 = some r) ∧ Aside0 (kq ≤ kj1) ∧ Drawn0 w wc)
      case first =>
        have H := HC8.out; clear HC8; by_cases c9 : a0 ≥ 48
        · rw [if_pos c9] at H
          have c9b0 : decide (48 ≤ a0) = true := zFq c9; clear c9; (first | rw [c9b0] | (simp only [i64_w, i32_w]; rw [c9b0]) | skip)
          have H' := zA H; clear H; go_wp2; go_meet
          case rel => exact ⟨_, (decide (a0 ≤ 57)), (by first | rfl | (simp; done) | (simp [*]; done)), H', ⟨by have := HJ1.out; first | omega | exact Nat.le_refl _⟩, by repeat (first | exact Drawn0.refl _ | apply Drawn0.step)⟩
        rw [if_neg c9] at H; have c9b0 : decide (48 ≤ a0) = false := zGq c9; clear c9; (first | rw [c9b0] | (simp only [i64_w, i32_w]; rw [c9b0]) | skip)
        have H' := zA H; clear H; go_wp2; go_meet
        case rel => exact ⟨_, (false), (by first | rfl | (simp; done) | (simp [*]; done)), H', ⟨by have := HJ1.out; first | omega | exact Nat.le_refl _⟩, by repeat (first | exact Drawn0.refl _ | apply Drawn0.step)⟩
      case rest =>
        clear HC8; try clear c1
        try clear p2
        try clear c3
        try clear c3b0
        try clear c4
        try clear c4b0
        try clear c5
        try clear c5b0
        try clear c6
        try clear c6b0
        try clear c7
        try clear c9
        try clear c9b0
        try clear p2
        obtain ⟨kq, x18_7, rfl, HA, HJ7, ⟨mc7, rfl⟩⟩ := hcut; cases kq with
        | zero => exact absurd HA.out (by simp [serial_Class.j1])
        | succ kj7 =>
          have H := HA.out; clear HA; simp only [serial_Class.j1] at H; by_cases c10 : x18_7 = true
          · subst c10
            have H1 : (some 2) = some r := by first | (rw [if_pos rfl] at H; exact H) | rfl
            clear H; have H := H1; clear H1; obtain rfl := zKq H; go_wp2; go_ret; exact ⟨by first | rfl | (simp; done) | (simp [*]; done), by repeat (first | exact Drawn0.refl _ | apply Drawn0.step)⟩
          replace c10 := Bool.eq_false_iff.mpr c10; subst c10; have H1 : (if a0 = 45 then (some 3) else (some 0)) = some r := by first | (rw [if_neg (show ¬ (false = true) by decide)] at H; exact H) | rfl
          clear H; have H := H1; clear H1; by_cases c11 : a0 = 45
          · rw [if_pos c11] at H
            have c11b0 : (a0 == 45) = true := beq_iff_eq.mpr c11; have c11b1 : (a0 != 45) = false := bne_eq_false_iff_eq.mpr c11; clear c11; obtain rfl := zKq H; go_wp2; go_ret; exact ⟨by first | rfl | (simp; done) | (simp [*]; done), by repeat (first | exact Drawn0.refl _ | apply Drawn0.step)⟩
          rw [if_neg c11] at H; have c11b0 : (a0 == 45) = false := beq_eq_false_iff_ne.mpr c11; have c11b1 : (a0 != 45) = true := bne_iff_ne.mpr c11; obtain rfl := zKq H; go_wp2; go_ret; exact ⟨by first | rfl | (simp; done) | (simp [*]; done), by repeat (first | exact Drawn0.refl _ | apply Drawn0.step)⟩
end Go.Proofs.Ytdpcgigjlcpofaa.F
set_option linter.unusedVariables false
set_option linter.unusedSimpArgs false
namespace Go.Proofs.YtdpcgigjlcpofaaX
open Go.RowKit
def clsI (r : Int) : Int := if (97 ≤ r ∧ r ≤ 122) ∨ (65 ≤ r ∧ r ≤ 90) then 1 else if 48 ≤ r ∧ r ≤ 57 then 2 else if r = 45 then 3 else 0
def upI (r : Int) : Int := if 97 ≤ r ∧ r ≤ 122 then r - 32 else r
def mayB (c last : Int) : Bool := c != 0 && (c != 3 || last != 3)
def okL : Int → List Int → Bool
  | _, [] => true
  | last, r :: rs => mayB (clsI r) last && okL (clsI r) rs
def runes (l : List UInt8) : List Int := l.map fun b => (b.toNat : Int)
def foldS (s : ByteArray) : ByteArray × Int :=
  if s.size < 1 ∨ s.size > 16 ∨ s.data.toList.getLast? = some 45 ∨ okL 3 (runes s.data.toList) = false then (⟨#[]⟩, 9)
  else (⟨((runes s.data.toList).map fun r => UInt8.ofNat (upI r).toNat).toArray⟩, 0)
def checkS (s : ByteArray) : Int := if (foldS s).2 = 0 ∧ (foldS s).1 = s then 0 else 9
theorem okL_bad {last r : Int} {rs : List Int} (h : mayB (clsI r) last = false) : okL last (r :: rs) = false := by simp [okL, h]
theorem okL_go {last r : Int} {rs : List Int} (h : mayB (clsI r) last = true) : okL last (r :: rs) = okL (clsI r) rs := by simp [okL, h]
theorem cls_high {r : Int} (h : 128 ≤ r) : clsI r = 0 := by unfold clsI; rw [if_neg (by omega), if_neg (by omega), if_neg (by omega)]
theorem mayB_zero {last : Int} : mayB 0 last = false := by simp [mayB]
theorem decode_high' (s : ByteArray) (i : Nat) (h : ¬ (s.get! i).toNat < 128) : 128 ≤ (Utf8.decode s i).1 := by
  unfold Utf8.decode
  simp only [Nat.add_zero]
  rw [if_neg (by omega)]
  have he : Utf8.runeError = 65533 := rfl
  (repeat' split) <;> simp_all <;> omega
theorem size_list (s : ByteArray) : s.data.toList.length = s.size := by rw [Array.length_toList]; rfl
theorem runes_length (l : List UInt8) : (runes l).length = l.length := by simp [runes]
theorem runes_drop (s : ByteArray) (i : Nat) (h : i < s.size) : (runes s.data.toList).drop i = ((s[i]'h).toNat : Int) :: (runes s.data.toList).drop (i + 1) := by
  rw [List.drop_eq_getElem_cons (by rw [runes_length, size_list]; exact h)]
  congr 1
  simp [runes]; rfl
theorem runes_take (s : ByteArray) (i : Nat) (h : i < s.size) : (runes s.data.toList).take (i + 1) = (runes s.data.toList).take i ++ [((s[i]'h).toNat : Int)] := by
  rw [List.take_succ_eq_append_getElem (by rw [runes_length, size_list]; exact h)]
  congr 1
  simp [runes]; rfl
theorem encode_ascii {n : Int} (h0 : 0 ≤ n) (h : n < 128) : Utf8.encode n = ⟨#[UInt8.ofNat n.toNat]⟩ := by
  unfold Utf8.encode
  have hv : Utf8.valid n = true := by simp [Utf8.valid]; omega
  simp only [hv, if_true]
  rw [if_pos (by omega)]
theorem foldl_ascii (ns : List Int) (h : ∀ n ∈ ns, 0 ≤ n ∧ n < 128) : ∀ s : ByteArray, ns.foldl (fun r n => r ++ Utf8.encode n) s = s ++ ⟨(ns.map fun n => UInt8.ofNat n.toNat).toArray⟩ := by
  induction ns with
  | nil => intro s; simp only [List.foldl_nil, List.map_nil]; exact (ByteArray.append_empty).symm
  | cons n ns ih =>
    intro s
    obtain ⟨h0, h1⟩ := h n List.mem_cons_self
    simp only [List.foldl_cons]
    rw [ih (fun m hm => h m (List.mem_cons_of_mem _ hm)), encode_ascii h0 h1]
    ext1
    simp [ByteArray.data_append]
theorem runes_ascii (ns : List Int) (h : ∀ n ∈ ns, 0 ≤ n ∧ n < 128) : runesBytes ns = ⟨(ns.map fun n => UInt8.ofNat n.toNat).toArray⟩ := by
  unfold runesBytes
  rw [foldl_ascii ns h]
  ext1
  simp [ByteArray.data_append]
end Go.Proofs.YtdpcgigjlcpofaaX
set_option linter.unusedVariables false
namespace Go.Proofs
open Go.Shelf
def Try.lays100_ren : Go.Shelf.Ren := ⟨fun | 100 => 153 | 207 => 167 | n => n, fun | 9 => 9 | 4 => 4 | 3 => 3 | n => n, fun | n => n⟩
theorem Try.lays100 : Go.Proofs.Lays.n100 Try.prog Try.lays100_ren := {
  mixed := by kernel_rfl
  f100 := Try.func153.trans (congrArg some (by kernel_rfl))
  f207 := Try.func167.trans (congrArg some (by kernel_rfl))
  t3 := Try.underlying3
  a3 := Try.isAgg3
  z3 := Try.sizeOf3
  v3 := Try.zeroValue3
  t4 := Try.underlying4
  a4 := Try.isAgg4
  z4 := Try.sizeOf4
  v4 := Try.zeroValue4
  t9 := Try.underlying9
  a9 := Try.isAgg9
  z9 := Try.sizeOf9
  v9 := Try.zeroValue9 }
open Go.RowKit Go.Lib in
theorem Try.strings_HasSuffix (s p : ByteArray) (w : World) (hs : s.size ≤ 9223372036854775807) :
    Calls Try.prog 153 #[.string s, .string p] w fun e w' => e = .returned (.bool (Lib.hasSuffix s.data.toList p.data.toList)) ∧ w' = w := Any.strings_HasSuffix Try.lays100 s p w hs
def Try.lays195_ren : Go.Shelf.Ren := ⟨fun | 195 => 152 | n => n, fun | 9 => 9 | 3 => 3 | 0 => 0 | 4 => 4 | n => n, fun | n => n⟩
theorem Try.lays195 : Go.Proofs.Lays.n195 Try.prog Try.lays195_ren := {
  mixed := by kernel_rfl
  f195 := Try.func152.trans (congrArg some (by kernel_rfl))
  t0 := Try.underlying0
  a0 := Try.isAgg0
  z0 := Try.sizeOf0
  v0 := Try.zeroValue0
  t3 := Try.underlying3
  a3 := Try.isAgg3
  z3 := Try.sizeOf3
  v3 := Try.zeroValue3
  t4 := Try.underlying4
  a4 := Try.isAgg4
  z4 := Try.sizeOf4
  v4 := Try.zeroValue4
  t9 := Try.underlying9
  a9 := Try.isAgg9
  z9 := Try.sizeOf9
  v9 := Try.zeroValue9 }
open Go.RowKit in
theorem Try.utf8_RuneCountInString (s : ByteArray) (w : World) (hs : s.size < 9223372036854775807) :
    Calls Try.prog 152 #[.string s] w fun e w' => e = .returned (.int .i64 (Lib.runeCount s)) ∧ ∃ pos, w' = w.iter s pos := Any.utf8_RuneCountInString Try.lays195 s w hs
end Go.Proofs
namespace Go.Proofs.Ytdpcgigjlcpofaa.F
open Go.RowKit Go.Proofs.YtdpcgigjlcpofaaX Go.Proofs.YtdpcgigjlcpofaaW.PrintWords Go.Proofs.YtdpcgigjlcpofaaW.PrintLast Go.Proofs.YtdpcgigjlcpofaaW.PrintMore
attribute [local go_sem] max2_int min2_int max_two min_two max_three min_three max_four min_four   
attribute [local go_sem high] str_geq str_leq str_gtr
set_option linter.unusedVariables false
set_option linter.unusedSimpArgs false
set_option maxHeartbeats 1000000 in
theorem stands1 (k : Nat) (r c last : Int) (b : Nat) (w : World) (hc : serial_Class.f k r = some c) (hb : w.heap[b]? = some (.cells #[.int .i64 last] 3 (0, 0))) :
    Calls Try.prog 168 #[.int .i32 r, .pointer (some ⟨b, 0, none⟩)] w fun e w' => e = .returned (.bool (mayB c last)) ∧ ∃ n, w' = (w.drewN n).setCell ⟨b, 0, none⟩ (.int .i64 c) := by
  have HC := zA hc
  have h0 : w.cell? ⟨b, 0, none⟩ = some (.int .i64 last) := by simp [World.cell?, hb]
  have hf : w.frozen? ⟨b, 0, none⟩ = false := by simp [World.frozen?, hb]
  clear hc hb
  by_cases c0 : c = 0
  · subst c0
    go_enter Try.func168, Try.ntmps168; go_wp2_with (go_at_call 169; refine (serial_Class.calls k _ _ _ HC.out).mono ?_; rintro e w' ⟨rfl, ⟨nd, rfl⟩⟩); go_ret; exact ⟨by simp [mayB], nd, by simp⟩
  have e0 : (c != 0) = true := bne_iff_ne.2 c0
  by_cases c3 : c = 3
  · subst c3
    clear c0 e0; by_cases l3 : last = 3
    · subst l3
      go_enter Try.func168, Try.ntmps168; go_wp2_with (go_at_call 169; refine (serial_Class.calls k _ _ _ HC.out).mono ?_; rintro e w' ⟨rfl, ⟨nd, rfl⟩⟩); go_ret; exact ⟨by simp [mayB], nd, by simp⟩
    have e1 : (last != 3) = true := bne_iff_ne.2 l3; clear l3; go_enter Try.func168, Try.ntmps168; go_wp2_with (go_at_call 169; refine (serial_Class.calls k _ _ _ HC.out).mono ?_; rintro e w' ⟨rfl, ⟨nd, rfl⟩⟩); go_ret; exact ⟨by simp [mayB, e1], nd, by simp⟩
  have e1 : (c != 3) = true := bne_iff_ne.2 c3
  clear c0 c3
  go_enter Try.func168, Try.ntmps168
  go_wp2_with (go_at_call 169; refine (serial_Class.calls k _ _ _ HC.out).mono ?_; rintro e w' ⟨rfl, ⟨nd, rfl⟩⟩)
  go_ret
  exact ⟨by simp [mayB, e0, e1], nd, by simp⟩
theorem runeCount_pos (s : ByteArray) (h : 0 < s.size) : 1 ≤ Lib.runeCount s := by
  unfold Lib.runeCount
  obtain ⟨n, hn⟩ : ∃ n, s.size = n + 1 := ⟨s.size - 1, by omega⟩
  rw [hn]
  unfold Lib.runeCountFrom
  rw [if_pos h]; omega
theorem runeCount_step {s : ByteArray} {i : Nat} (h : Lib.runeCountFrom s (s.size - i) i + i = Lib.runeCount s) (hp : i < s.size) (ha : (s[i]'hp).toNat < 128) : Lib.runeCountFrom s (s.size - (i + 1)) (i + 1) + (i + 1) = Lib.runeCount s := by
  rw [show s.size - i = (s.size - (i + 1)) + 1 by omega] at h
  have h2 : Lib.runeCountFrom s (s.size - (i + 1) + 1) i = 1 + Lib.runeCountFrom s (s.size - (i + 1)) (i + 1) := by
    rw [Lib.runeCountFrom, if_pos hp, decode_ascii s i hp ha]
  rw [h2] at h
  omega
theorem suffix_last {l : List UInt8} : Lib.hasSuffix l [45] = true ↔ l.getLast? = some 45 := by
  unfold Lib.hasSuffix
  rw [List.isSuffixOf_iff_suffix]
  constructor
  · rintro ⟨t, rfl⟩; simp
  intro h
  rw [List.getLast?_eq_some_iff] at h
  obtain ⟨t, rfl⟩ := h
  exact ⟨t, rfl⟩
theorem runeCount_ascii (s : ByteArray) (h : ∀ i (hi : i < s.size), (s[i]'hi).toNat < 128) : ∀ (d b pos : Nat), s.size - pos = d → pos ≤ s.size → d ≤ b → Lib.runeCountFrom s b pos = d := by
  intro d
  induction d with
  | zero =>
    intro b pos hd hp hb
    exact Lib.runeCountFrom_end s b pos (by omega)
  | succ d ih =>
    intro b pos hd hp hb
    obtain ⟨b, rfl⟩ : ∃ c, b = c + 1 := ⟨b - 1, by omega⟩
    have hlt : pos < s.size := by omega
    unfold Lib.runeCountFrom
    rw [if_pos hlt, decode_ascii s pos hlt (h pos hlt)]
    show 1 + Lib.runeCountFrom s b (pos + 1) = d + 1
    rw [ih b (pos + 1) (by omega) (by omega) (by omega)]
    omega
theorem okL_all (l : List Int) : ∀ last, okL last l = true → ∀ r ∈ l, r < 128 := by
  induction l with
  | nil => intro _ _ r h; cases h
  | cons a l ih =>
    intro last h r hr
    simp only [okL, Bool.and_eq_true] at h
    rcases List.mem_cons.1 hr with rfl | hr
    · apply Classical.byContradiction
      intro hn
      rw [cls_high (by omega), mayB_zero] at h
      exact absurd h.1 (by decide)
    exact ih _ h.2 r hr
theorem okL_size {s : ByteArray} (h : okL 3 (runes s.data.toList) = true) : Lib.runeCount s = s.size := by
  unfold Lib.runeCount
  refine runeCount_ascii s (fun i hi => ?_) s.size s.size 0 (by omega) (by omega) (Nat.le_refl _)
  have := okL_all _ _ h (((s[i]'hi).toNat : Nat) : Int) (List.mem_map.2 ⟨s[i]'hi, ?_, rfl⟩)
  · omega
  rw [List.mem_iff_getElem]
  exact ⟨i, by rw [size_list]; exact hi, rfl⟩
theorem own_keep {k : IntKind} {e base : Nat} {ok : Nat → Prop} {w w1 : World} {v : Value} {xs : List Int} (h : Kd.R (Kd.int k) e w base ok v xs) (hk : ∀ g, v.ownBlock = some g → w1.heap[g]? = w.heap[g]?) : Kd.R (Kd.int k) e w1 base ok v xs := by
  obtain ⟨h0, inner, ho, hr⟩ := h
  refine ⟨h0, inner, ⟨ho.1, ?_⟩, hr⟩
  rcases ho.2 with hn | ⟨g, cap, cur, hv, hb, hg, rest⟩
  · exact .inl hn
  exact .inr ⟨g, cap, cur, hv, hb, (hk g (by rw [hv]; rfl)).trans hg, rest⟩
theorem infoRune : (Try.prog.info? 21).map (fun i => (i.zero, i.size, i.bytes)) = some (some (.int .i32 0), 1, 4) := by kernel_rfl
theorem class_f (r : Int) : serial_Class.f 20 r = some (clsI r) := by
  unfold serial_Class.f clsI
  simp only [serial_Class.j0, serial_Class.j1]
  (repeat' split) <;> simp_all <;> omega
theorem folded_f {r : Int} (h0 : 0 ≤ r) (h : r < 128) : serial_folded.f r = some (upI r) := by
  unfold serial_folded.f upI wrap32
  (repeat' split) <;> simp_all <;> omega
theorem stands_made (w : World) : Calls Try.prog 154 #[] w fun e w' => e = .returned (.func (.func 168) #[] #[.pointer (some ⟨w.heap.size, 0, none⟩)]) ∧ w' = w.alloc (.cells #[.int .i64 3] 3) := by
  have hmf : ∀ (fn : Fn) (first cap : Array Value) (w : World), (Instr.makeFunc fn first cap).run Try.prog w = .ok (.func fn first cap) w := fun _ _ _ _ => rfl
  go_enter Try.func154, Try.ntmps154
  go_wp2
  go_ret
  exact ⟨rfl, rfl⟩
def serial_Fold.f (s : ByteArray) : Option (ByteArray × Int) := if s.size < 9223372036854775807 then some (foldS s) else none
set_option maxHeartbeats 4000000 in
set_option maxRecDepth 100000 in
theorem serial_Fold.calls (s : ByteArray) (r1 : ByteArray) (r2 : Int) (w : World) (h : serial_Fold.f s = some (r1, r2)) :
    Calls Try.prog 127 #[.string s] w fun e w' => e = .returned (.tuple #[.string r1, .int .i64 r2]) ∧ Below w.heap.size w w' := by
  unfold serial_Fold.f at h
  by_cases hs : s.size < 9223372036854775807
  · rw [if_pos hs] at h
    have H := zA (zKq h); have HS := zA hs; clear h; have hrc := Lib.runeCount_le s; by_cases hbad : Lib.runeCount s < 1 ∨ 16 < Lib.runeCount s
    · have hr : foldS s = (⟨#[]⟩, 9) := by
        unfold foldS
        by_cases hok : okL 3 (runes s.data.toList) = false
        · rw [if_pos (.inr (.inr (.inr hok)))]
        rcases hbad with hb | hb
        · by_cases h0 : s.size < 1
          · rw [if_pos (.inl h0)]
          exact absurd (runeCount_pos s (by omega)) (by omega)
        rw [if_pos (.inr (.inl (by omega)))]
      have hH := H.out; rw [hr] at hH; simp only [zOq] at hH; obtain ⟨rfl, rfl⟩ := hH; rcases hbad with hb | hb
      · have t1 : decide ((Lib.runeCount s : Int) < 1) = true := zFq (by omega)
        clear hb hs; go_enter Try.func127, Try.ntmps127; go_wp2_with (first
          | (go_at_call 152; refine (Try.utf8_RuneCountInString _ _ (by have := HS.out; omega)).mono ?_; rintro e w1 ⟨rfl, ⟨pos, rfl⟩⟩))
        go_ret2; exact ⟨rfl, zD (Below.refl _ _) _⟩
      have t1 : decide ((Lib.runeCount s : Int) < 1) = false := zGq (by omega); have t2 : decide (16 < (Lib.runeCount s : Int)) = true := zFq (by omega); clear hb hs; go_enter Try.func127, Try.ntmps127; go_wp2_with (first
        | (go_at_call 152; refine (Try.utf8_RuneCountInString _ _ (by have := HS.out; omega)).mono ?_; rintro e w1 ⟨rfl, ⟨pos, rfl⟩⟩))
      go_ret2; exact ⟨rfl, zD (Below.refl _ _) _⟩
    have t1 : decide ((Lib.runeCount s : Int) < 1) = false := zGq (by omega); have t2 : decide (16 < (Lib.runeCount s : Int)) = false := zGq (by omega); by_cases hsuf : Lib.hasSuffix s.data.toList [45] = true
    · have hr : foldS s = (⟨#[]⟩, 9) := by
        unfold foldS
        rw [if_pos (.inr (.inr (.inl (suffix_last.1 hsuf))))]
      have hH := H.out; rw [hr] at hH; simp only [zOq] at hH; obtain ⟨rfl, rfl⟩ := hH; have HSf := zA hsuf; clear hs hbad hsuf hr hrc; go_enter Try.func127, Try.ntmps127; go_wp2_with (first
        | (go_at_call 152; refine (Try.utf8_RuneCountInString _ _ (by have := HS.out; omega)).mono ?_; rintro e w1 ⟨rfl, ⟨pos, rfl⟩⟩)
        | (go_at_call 153; refine (Try.strings_HasSuffix _ _ _ (by have := HS.out; omega)).mono ?_; rintro e w2 ⟨rfl, rfl⟩; rw [show Lib.hasSuffix s.data.toList (ByteArray.mk #[45]).data.toList = true from HSf.out]))
      go_ret2; exact ⟨rfl, zD (Below.refl _ _) _⟩
    have HSf := zA (Bool.eq_false_iff.2 hsuf); have HN := zA (show 1 ≤ Lib.runeCount s ∧ Lib.runeCount s ≤ 16 by omega); have hmk : ∀ W, (Instr.makeSlice 233 (.int .i64 0) (.int .i64 (Lib.runeCount s : Int))).run Try.prog W = .ok (.slice (some ⟨W.heap.size, 0, none⟩) 0 (Lib.runeCount s)) (W.alloc (.cells (madeCells (Value.int .i32 0).cells (Lib.runeCount s)) 21)) := by
      intro W; obtain ⟨i0, hi, hzz⟩ := Option.map_eq_some_iff.1 infoRune; simp only [zOq] at hzz; have := run_makeSlice (P := Try.prog) W 233 21 i0 (.int .i32 0) Try.underlying233 hi hzz.1 .i64 .i64 0 (Lib.runeCount s) (by omega) (by omega) (by rw [hzz.2.1]; simp; omega) (by rw [hzz.2.2]; omega) (by omega); rw [hzz.2.1] at this; simpa using this
    clear hs hbad hsuf hrc; go_enter Try.func127, Try.ntmps127; go_wp2_with (first
      | (go_at_call 152; refine (Try.utf8_RuneCountInString _ _ (by have := HS.out; omega)).mono ?_; rintro e w1 ⟨rfl, ⟨pos, rfl⟩⟩)
      | (go_at_call 153; refine (Try.strings_HasSuffix _ _ _ (by have := HS.out; omega)).mono ?_; rintro e w2 ⟨rfl, rfl⟩; rw [show Lib.hasSuffix s.data.toList (ByteArray.mk #[45]).data.toList = false from HSf.out])
      | (go_at_call 154; refine (stands_made _).mono ?_; rintro e w2 ⟨rfl, rfl⟩))
    obtain ⟨W0, hW0⟩ : ∃ W0, W0 = w.iter s pos := ⟨_, rfl⟩
    rw [← hW0]; have HB0 := zA (show Below w.heap.size w W0 by rw [hW0]; exact zD (Below.refl _ _) _); clear hW0; clear hmk t1 t2; go_loopw [6] (fun v6 wr => ∃ (i : Nat) (last : Int), i ≤ s.size ∧ Aside0 (Kd.R (Kd.int .i32) 21 wr W0.heap.size (fun k => k ≠ W0.heap.size ∧ k ≠ W0.heap.size + 1 + 1) v6 (((runes s.data.toList).take i).map upI)) ∧ Aside0 (wr.heap[W0.heap.size + 1 + 1]? = some (.stringIter s i)) ∧ Aside0 (wr.heap[W0.heap.size]? = some (.cells #[.int .i64 last] 3 (0, 0))) ∧ Aside0 (okL 3 (runes s.data.toList) = okL last ((runes s.data.toList).drop i)) ∧ Aside0 (Below W0.heap.size W0 wr) ∧ Aside0 (Lib.runeCountFrom s (s.size - i) i + i = Lib.runeCount s)) (fun _ wr => s.size - wr.iterPos (W0.heap.size + 1 + 1))
    case atStart =>
      refine ⟨0, 3, by omega, ⟨?_⟩, ⟨?_⟩, ⟨?_⟩, ⟨rfl⟩, ⟨?_⟩, ⟨rfl⟩⟩
      · refine own_keep (w := (W0.alloc (.cells #[.int .i64 3] 3)).alloc (.cells (madeCells (Value.int .i32 0).cells (Lib.runeCount s)) 21)) ⟨fun k hk => ?_, [], ?_, Reps.none _ _⟩ (fun g hg => ?_)
        · simp only [Value.ownBlock, zNq] at hk
          omega
        · have := World.ownsRow_made (e := 21) (size := (Kd.int .i32).sz) (base := W0.heap.size) (W0.alloc (.cells #[.int .i64 3] 3)) (madeCells (Value.int .i32 0).cells (Lib.runeCount s)) (Lib.runeCount s) (by simp) (by unfold maxLen; have := HN.out; omega) (by rw [size_madeCells]; exact (Nat.mul_one _).symm)
          simpa using this
        simp only [Value.ownBlock, zNq] at hg; subst hg; exact Below.heap_alloc _ _ _ (by simp)
      · have := World.iter_heap ((W0.alloc (.cells #[.int .i64 3] 3)).alloc (.cells (madeCells (Value.int .i32 0).cells (Lib.runeCount s)) 21)) s 0
        have e : ((W0.alloc (.cells #[.int .i64 3] 3)).alloc (.cells (madeCells (Value.int .i32 0).cells (Lib.runeCount s)) 21)).heap.size = W0.heap.size + 1 + 1 := by simp
        rw [e] at this; exact this
      · exact zZ (zZ (blk_new _ _) _) _
      exact zD (zD (zD (Below.refl _ _) _) _) _
    case round =>
      obtain ⟨i, last, hi, HO, HI, HL, HK, HB, HRC⟩ := hrel; have hlt2 : W0.heap.size + 1 + 1 < wr.heap.size := blk_lt HI.out; by_cases hp : i < s.size
      · have hd := runes_drop s i hp
        by_cases ha : (s[i]'hp).toNat < 128
        · obtain ⟨Wn, hWn⟩ : ∃ Wn, Wn = wr.iterAt (W0.heap.size + 1 + 1) s (i + 1) := ⟨_, rfl⟩
          have hnx : ∀ ty, (Instr.next (.pointer (some ⟨W0.heap.size + 1 + 1, 0, none⟩)) true ty).run Try.prog wr = .ok (.tuple #[.bool true, .int .i64 i, .int .i32 (s[i]'hp).toNat]) Wn := fun ty => by rw [hWn]; exact Lib.run_next_ascii_at wr _ s i ty HI.out hp ha
          have HI1 := zA (show Wn.heap[W0.heap.size + 1 + 1]? = some (.stringIter s (i + 1)) by rw [hWn]; exact Lib.iterAt_heap wr _ s i (i + 1) HI.out); have HL1 := zA (show Wn.heap[W0.heap.size]? = some (.cells #[.int .i64 last] 3 (0, 0)) by rw [hWn, Lib.iterAt_other _ _ _ _ _ (by omega)]; exact HL.out); have HB1 := zA (show Below W0.heap.size W0 Wn by rw [hWn]; exact Lib.below_iterAt HB.out (by omega) s (i + 1)); have HO1 := zA (show Kd.R (Kd.int .i32) 21 Wn W0.heap.size (fun k => k ≠ W0.heap.size ∧ k ≠ W0.heap.size + 1 + 1) u6 (((runes s.data.toList).take i).map upI) by rw [hWn]; exact own_keep HO.out (fun g hg => Lib.iterAt_other _ _ _ _ _ (HO.out.1 g hg).2)); clear hWn; obtain ⟨r, hr⟩ : ∃ r : Int, r = ((s[i]'hp).toNat : Int) := ⟨_, rfl⟩
          rw [← hr] at hd hnx; have hr0 : 0 ≤ r ∧ r < 128 := by omega
          have HK2 := zA (HK.out.trans (congrArg (okL last) hd)); have HR := zA hr0; have HT := zA (show (runes s.data.toList).take (i + 1) = (runes s.data.toList).take i ++ [r] by rw [hr]; exact runes_take s i hp); have HP := zA hp; clear hd hr hr0; cases hm : mayB (clsI r) last with
          | false =>
            have hH := H.out; have hf : foldS s = (⟨#[]⟩, 9) := by
              unfold foldS
              rw [if_pos (.inr (.inr (.inr (HK2.out.trans (okL_bad hm)))))]
            rw [hf] at hH; simp only [zOq] at hH; obtain ⟨rfl, rfl⟩ := hH; have HM := zA hm; clear hm hf; go_wp2_with (first
              | (go_at_call 168; refine (stands1 20 r (clsI r) last W0.heap.size _ (class_f _) HL1.out).mono ?_; rintro e w2 ⟨rfl, ⟨nd, rfl⟩⟩; rw [HM.out]))
            go_ret2; exact ⟨rfl, below_then HB0.out HB0.out.size (Below.setCell (zB HB1.out _) (Nat.le_refl _) _)⟩
          | true =>
            have HM := zA hm; clear hm; have HL3 : Aside0 ((((runes s.data.toList).take i).map upI).length ≤ i) := ⟨by simp; omega⟩
            have HSM := zA (show i < 1099511627776 by have := HRC.out; have := HN.out; omega); have HRC2 := zA (show Lib.runeCountFrom s (s.size - (i + 1)) (i + 1) + (i + 1) = Lib.runeCount s from runeCount_step HRC.out hp ha); go_wp2_with (first
              | (go_at_call 168; refine (stands1 20 r (clsI r) last W0.heap.size _ (class_f _) HL1.out).mono ?_; rintro e w2 ⟨rfl, ⟨nd, hw2⟩⟩; rw [HM.out]; have HI2 := zA (show w2.heap[W0.heap.size + 1 + 1]? = some (.stringIter s (i + 1)) by rw [hw2, Below.heap_setCell _ _ _ _ (show W0.heap.size + 1 + 1 ≠ W0.heap.size by omega)]; exact HI1.out); have HL2 := zA (show w2.heap[W0.heap.size]? = some (.cells #[.int .i64 (clsI r)] 3 (0, 0)) by rw [hw2]; exact blk_put (zY HL1.out nd) 0 _ rfl); have HB2 := zA (show Below W0.heap.size W0 w2 by rw [hw2]; exact Below.setCell (zB HB1.out _) (Nat.le_refl _) _); have HO2 := zA (own_keep (w1 := w2) HO1.out (fun g hg => by rw [hw2, Below.heap_setCell _ _ _ _ (HO1.out.1 g hg).1]; rfl)); clear hw2)
              | (go_at_call 155; refine (serial_folded.calls r (upI r) _ (folded_f HR.out.1 HR.out.2)).mono ?_; rintro e w3 ⟨rfl, ⟨nd2, rfl⟩⟩)
              | (at_builtin; refine Kd.R_append (Kd.int .i32) (w0 := W0) W0.heap.size rfl (.tmp 33) (.tmp 36) 233 21 (.int .i32 0) 4 rfl Try.underlying233 infoRune rfl (by decide) (by omega) _ (((runes s.data.toList).take i).map upI) (upI r) [.int .i32 (upI r)] (fun k => k ≠ W0.heap.size ∧ k ≠ W0.heap.size + 1 + 1) (fun _ => False) rfl rfl ?aP (fun _ hk => hk.elim) ?aF ?aO ?aB ?aS ?aL ?_; (case aP => exact rfl); (case aB => exact zB HB2.out _); (case aF => exact (fun k hk => by have h1 := blk_lt HI2.out; have h2 : w2.heap.size ≤ k := hk; omega)); (case aO => exact own_keep HO2.out (fun _ _ => rfl)); (case aS => exact HB2.out.size); (case aL => have := HL3.out; have := HSM.out; omega); intro v1 w4 ho hb hg hat; have HO4 := zA ho; have HB4 := zA hb; have HI4 := zA (blk_grown (zY HI2.out nd2) hg (fun e => (HO2.out.1 _ e.symm).2 rfl)); have HL4 := zA (blk_grown (zY HL2.out nd2) hg (fun e => (HO2.out.1 _ e.symm).1 rfl)); clear ho hb hg hat))
            go_roundw
            case rel =>
              refine ⟨i + 1, clsI r, by have := HP.out; omega, ⟨?_⟩, HI4, HL4, ⟨HK2.out.trans (okL_go HM.out)⟩, HB4, HRC2⟩; have := HO4.out; rw [HT.out, List.map_append]; exact this
            case measure =>
              have h1 : ∀ (W : World) (p : Nat), W.heap[W0.heap.size + 1 + 1]? = some (.stringIter s p) → W.iterPos (W0.heap.size + 1 + 1) = p := fun W p h => by unfold World.iterPos; rw [h]
              rw [h1 _ _ HI4.out, h1 _ _ HI.out]; have := HP.out; omega
        obtain ⟨Wn, hWn⟩ : ∃ Wn, Wn = wr.iterAt (W0.heap.size + 1 + 1) s (i + (Utf8.decode s i).2) := ⟨_, rfl⟩
        have hnx : ∀ ty, (Instr.next (.pointer (some ⟨W0.heap.size + 1 + 1, 0, none⟩)) true ty).run Try.prog wr = .ok (.tuple #[.bool true, .int .i64 i, .int .i32 (Utf8.decode s i).1]) Wn := fun ty => by rw [hWn]; exact Lib.run_next_any_at wr _ s i ty HI.out hp
        have HL1 := zA (show Wn.heap[W0.heap.size]? = some (.cells #[.int .i64 last] 3 (0, 0)) by rw [hWn, Lib.iterAt_other _ _ _ _ _ (by omega)]; exact HL.out); have HB1 := zA (show Below W0.heap.size W0 Wn by rw [hWn]; exact Lib.below_iterAt HB.out (by omega) s _); clear hWn; have hg : s.get! i = s[i]'hp := by simp [ByteArray.get!, hp]; rfl
        have hhi := decode_high' s i (by rw [hg]; exact ha); obtain ⟨r, hr⟩ : ∃ r : Int, r = ((Utf8.decode s i).1 : Int) := ⟨_, rfl⟩
        rw [← hr] at hnx; have hc0 : clsI r = 0 := cls_high (by omega); have hH := H.out; have hf : foldS s = (⟨#[]⟩, 9) := by
          unfold foldS
          exact if_pos (.inr (.inr (.inr (by rw [HK.out, hd]; exact okL_bad (by rw [cls_high (by omega)]; rfl)))))
        rw [hf] at hH; simp only [zOq] at hH; obtain ⟨rfl, rfl⟩ := hH; have HC0 := zA (show serial_Class.f 20 r = some 0 by rw [class_f, hc0]); clear hhi hr hf hd hg hc0; go_wp2_with (first
          | (go_at_call 168; refine (stands1 20 r 0 last W0.heap.size _ HC0.out HL1.out).mono ?_; rintro e w2 ⟨rfl, ⟨nd, rfl⟩⟩; rw [show mayB 0 last = false from mayB_zero]))
        go_ret2; exact ⟨rfl, below_then HB0.out HB0.out.size (Below.setCell (zB HB1.out _) (Nat.le_refl _) _)⟩
      have hnx : ∀ ty, (Instr.next (.pointer (some ⟨W0.heap.size + 1 + 1, 0, none⟩)) true ty).run Try.prog wr = .ok (.tuple #[.bool false]) wr := fun ty => Lib.run_next_end_at wr _ s i ty HI.out hp
      have hi' : i = s.size := by omega
      subst hi'; have hok : okL 3 (runes s.data.toList) = true := by
        rw [HK.out, List.drop_eq_nil_of_le (by rw [runes_length, size_list]; exact Nat.le_refl _)]; rfl
      have hsz := okL_size hok; have hN := HN.out; have hf : foldS s = (⟨((runes s.data.toList).map fun r => UInt8.ofNat (upI r).toNat).toArray⟩, 0) := by
        unfold foldS
        rw [if_neg]; rintro (h | h | h | h)
        · omega
        · omega
        · rw [← suffix_last, HSf.out] at h; cases h
        rw [hok] at h; cases h
      have hH := H.out; rw [hf] at hH; simp only [zOq] at hH; obtain ⟨hH1, rfl⟩ := hH; have hrb : runesBytes ((runes s.data.toList).map upI) = r1 := by
        rw [← hH1, runes_ascii]
        · rw [List.map_map]; rfl
        intro n hn; obtain ⟨m, hm, rfl⟩ := List.mem_map.1 hn; have h1 := okL_all _ _ hok m hm; obtain ⟨b, _, rfl⟩ := List.mem_map.1 hm; unfold upI
        split <;> omega
      have hcv : ∃ A l c, u6 = .slice A l c ∧ (convert 233 9 (.slice A l c)).run Try.prog wr = .ok (.string r1) wr := by
        have hO := HO.out; rw [List.take_of_length_le (by rw [runes_length, size_list]; exact Nat.le_refl _)] at hO; obtain ⟨A, c, rfl⟩ := Kd.R_slice hO; refine ⟨A, _, c, rfl, ?_⟩; obtain ⟨h1, h2, h3⟩ := Kd.R_reads' hO; have hl : 0 < ((runes s.data.toList).map upI).length := by rw [List.length_map, runes_length, size_list]; omega
        obtain ⟨ad, e1, _⟩ := Kd.at_int h3 (0 : Int) (by omega) (by omega); subst e1; have := run_convert_runes (P := Try.prog) wr 233 9 21 ad ((runes s.data.toList).map upI).length c ((runes s.data.toList).map upI) (Nat.le_refl _) Try.underlying233 Try.underlying21 Try.underlying9 (fun j hj => by
          obtain ⟨ad2, e2, hx⟩ := Kd.at_int h3 (j : Int) (by omega) (by omega); cases e2
          rw [Int.toNat_natCast] at hx; rw [hx]; rfl)
        rw [List.take_length, hrb] at this; exact this
      obtain ⟨A, l, c, rfl, hcv⟩ := hcv; have HCV := zA hcv; clear hf hrb hH1 hok hsz hN hcv; have hcv2 := HCV.out; go_wp2; go_ret2; exact ⟨rfl, below_then HB0.out HB0.out.size HB.out⟩
  rw [if_neg hs] at h; cases h
def serial_Check.f (a0 : ByteArray) : Option (Int) := (serial_Fold.f a0).bind fun bt101 => (if bt101.2 = 0 then (if bt101.1.toList = a0.toList then (some 0) else (some 9)) else (some 9))
set_option maxHeartbeats 8000000 in
set_option maxRecDepth 100000 in
theorem serial_Check.calls (a0 : ByteArray) (r : Int) (w : World) (h : serial_Check.f a0 = some r) :
    Calls Try.prog 76 #[.string a0] w fun e w' => e = .returned (.int .i64 r) ∧ Below w.heap.size w w' := by
  have HB := zA (Below.refl w.heap.size w)
  have H : ((serial_Fold.f a0).bind fun bt101 => (if bt101.2 = 0 then (if bt101.1.toList = a0.toList then (some 0) else (some 9)) else (some 9))) = some r := h
  clear h
  replace H := Option.bind_eq_some_iff.mp H
  obtain ⟨⟨t101, t102⟩, A20, H⟩ := H
  try dsimp only at H
  have A2 := zA A20
  clear A20
  by_cases c3 : t102 = 0
  · rw [if_pos c3] at H
    have c3b0 : (t102 == 0) = true := beq_iff_eq.mpr c3; have c3b1 : (t102 != 0) = false := bne_eq_false_iff_eq.mpr c3; clear c3; by_cases c4 : t101.toList = a0.toList
    · rw [if_pos c4] at H
      have c4b0 : (t101.toList == a0.toList) = true := beq_iff_eq.mpr c4; have c4b1 : (t101.toList != a0.toList) = false := bne_eq_false_iff_eq.mpr c4; clear c4; obtain rfl := zKq H; go_enter Try.func76, Try.ntmps76; go_wp2_with (first | ((with_reducible refine zJq (f := 127) rfl ?_); refine goesL_ (some 7) rfl rfl Try.func127 (by kernel_rfl) rfl #[.string a0] rfl qG ?_; (with_reducible refine (serial_Fold.calls a0 t101 t102 _ A2.out).mono ?_); rintro e w5 ⟨rfl, hb⟩; refine ⟨_, rfl, ?_⟩; have n0_ := zA (zV qB hb); clear HB; have HB := n0_; clear n0_; (try clear hb))); go_ret; exact ⟨qE, qB⟩
    rw [if_neg c4] at H; have c4b0 : (t101.toList == a0.toList) = false := beq_eq_false_iff_ne.mpr c4; have c4b1 : (t101.toList != a0.toList) = true := bne_iff_ne.mpr c4; obtain rfl := zKq H; go_enter Try.func76, Try.ntmps76; go_wp2_with (first | ((with_reducible refine zJq (f := 127) rfl ?_); refine goesL_ (some 7) rfl rfl Try.func127 (by kernel_rfl) rfl #[.string a0] rfl qG ?_; (with_reducible refine (serial_Fold.calls a0 t101 t102 _ A2.out).mono ?_); rintro e w6 ⟨rfl, hb⟩; refine ⟨_, rfl, ?_⟩; have n0_ := zA (zV qB hb); clear HB; have HB := n0_; clear n0_; (try clear hb))); go_ret; exact ⟨qE, qB⟩
  rw [if_neg c3] at H
  have c3b0 : (t102 == 0) = false := beq_eq_false_iff_ne.mpr c3
  have c3b1 : (t102 != 0) = true := bne_iff_ne.mpr c3
  obtain rfl := zKq H
  go_enter Try.func76, Try.ntmps76
  go_wp2_with (first | ((with_reducible refine zJq (f := 127) rfl ?_); refine goesL_ (some 7) rfl rfl Try.func127 (by kernel_rfl) rfl #[.string a0] rfl qG ?_; (with_reducible refine (serial_Fold.calls a0 t101 t102 _ A2.out).mono ?_); rintro e w7 ⟨rfl, hb⟩; refine ⟨_, rfl, ?_⟩; have n0_ := zA (zV qB hb); clear HB; have HB := n0_; clear n0_; (try clear hb)))
  go_ret
  exact ⟨qE, qB⟩
def serial_Row.l0 : Nat → List ByteArray → List ByteArray → Int → Int → Option (Int)
  | 0, _, _, _, _ => none
  | k + 1, x0, x6, x7, x8 => if x8 < x7 then (if 0 ≤ x8 then (if x8 < (x6.length : Int) then ((serial_Check.f (rdOf ByteArray.empty x6 x8)).bind fun t102 => (if t102 = 0 then (if x8 > 0 then (if 0 ≤ (wrap64 (x8 - 1)) then (if (wrap64 (x8 - 1)) < (x0.length : Int) then (if ((Op.bytesLess ((rdOf ByteArray.empty x0 (wrap64 (x8 - 1))).toList) ((rdOf ByteArray.empty x6 x8).toList)) = true) then (serial_Row.l0 k x0 x6 x7 (wrap64 (x8 + 1))) else (some 32)) else (none)) else (none)) else (serial_Row.l0 k x0 x6 x7 (wrap64 (x8 + 1)))) else (some t102))) else (none)) else (none)) else (some 0)
def serial_Row.f (k : Nat) (l0 : List ByteArray) : Option (Int) := serial_Row.l0 k l0 l0 (l0.length : Int) 0
theorem serial_Row.mono_l : ∀ k, (∀ y0 y1 y2 y3, LeO (serial_Row.l0 k y0 y1 y2 y3) (serial_Row.l0 (k + 1) y0 y1 y2 y3))
  | 0 => fun _ _ _ _ r h => by simp [serial_Row.l0] at h
  | k + 1 => by
    have ih0 := serial_Row.mono_l k
    intro y0 y1 y2 y3
    unfold serial_Row.l0
    repeat' (with_reducible first | exact ih0 _ _ _ _ | exact LeO.refl _ | exact LeO.none _ | refine LeO.ite ?_ ?_ | refine LeO.bind ?_ (fun _ => ?_))
theorem serial_Row.mono : ∀ a0 k, LeO (serial_Row.f k a0) (serial_Row.f (k + 1) a0) := by
  intro a0 k
  have ih0 := serial_Row.mono_l k
  unfold serial_Row.f
  repeat' (with_reducible first | exact ih0 _ _ _ _ | exact LeO.refl _ | exact LeO.none _ | refine LeO.ite ?_ ?_ | refine LeO.bind ?_ (fun _ => ?_))
set_option maxHeartbeats 8000000 in
set_option maxRecDepth 100000 in
theorem serial_Row.calls (k : Nat) (A0 : Option Addr) (c0 : Nat) (l0 : List ByteArray) (r : Int) (w : World) (hr0 : Kd.C Kd.string w A0 l0.length l0) (hc0 : l0.length ≤ c0) (h : serial_Row.f k l0 = some r) :
    Calls Try.prog 80 #[.slice A0 l0.length c0] w fun e w' => e = .returned (.int .i64 r) ∧ Below w.heap.size w w' := by
  have HR0 := zA hr0
  have HC0 := zA hc0
  clear hr0 hc0
  have HB := zA (Below.refl w.heap.size w)
  have H : (serial_Row.l0 k l0 l0 (l0.length : Int) 0) = some r := h
  clear h
  have H' := zA H
  clear H
  go_enter Try.func80, Try.ntmps80
  go_wp2
  go_loopg [8] k (fun kq v8 w' => ∃ (x8_1 : Int), v8 = .int .i64 x8_1 ∧ Aside0 (serial_Row.l0 kq l0 l0 (l0.length : Int) x8_1 = some r) ∧ Aside0 (kq ≤ k) ∧ Aside0 (Below w.heap.size w w'))
  case atStart => exact ⟨(0), (by first | rfl | (simp; done) | (simp [*]; done)), H', ⟨Nat.le_refl _⟩, ⟨qB⟩⟩
  case round =>
    clear H'; obtain ⟨x8_1, rfl, HA, HK1, HB⟩ := hrel; cases gk with
    | zero => exact absurd HA.out (by simp [serial_Row.l0])
    | succ k1 =>
      have H := HA.out; clear HA; simp only [serial_Row.l0] at H; by_cases c2 : x8_1 < (l0.length : Int)
      · rw [if_pos c2] at H
        have c2b0 : decide (x8_1 < (l0.length : Int)) = true := zFq c2; clear c2; by_cases c3 : 0 ≤ x8_1
        · rw [if_pos c3] at H
          have c3b0 : decide (0 ≤ x8_1) = true := zFq c3; clear c3; by_cases c4 : x8_1 < (l0.length : Int)
          · rw [if_pos c4] at H
            have c4b0 : decide (x8_1 < (l0.length : Int)) = true := zFq c4; clear c4; replace H := Option.bind_eq_some_iff.mp H; obtain ⟨t102, A50, H⟩ := H; try dsimp only at H
            have A5 := zA A50; clear A50; by_cases c6 : t102 = 0
            · rw [if_pos c6] at H
              have c6b0 : (t102 == 0) = true := beq_iff_eq.mpr c6; have c6b1 : (t102 != 0) = false := bne_eq_false_iff_eq.mpr c6; clear c6; by_cases c7 : x8_1 > 0
              · rw [if_pos c7] at H
                have c7b0 : decide (0 < x8_1) = true := zFq c7; clear c7; obtain ⟨ji8, hji8⟩ : ∃ j_ : Int, (wrap64 (x8_1 - 1)) = j_ := ⟨_, rfl⟩
                replace H : (if 0 ≤ (ji8) then (if (ji8) < (l0.length : Int) then (if ((Op.bytesLess ((rdOf ByteArray.empty l0 (ji8)).toList) ((rdOf ByteArray.empty l0 x8_1).toList)) = true) then (serial_Row.l0 k1 l0 l0 (l0.length : Int) (wrap64 (x8_1 + 1))) else (some 32)) else (none)) else (none)) = some r := by first | (rw [hji8] at H; exact H) | (simp only [hji8] at H ⊢; exact H)
                (try rw [hji8] at A5)
                have hji8w : (IntKind.i64.wrap (x8_1 - 1)) = ji8 := (i64_w _).trans hji8; by_cases c9 : 0 ≤ (ji8)
                · rw [if_pos c9] at H
                  have c9b0 : decide (0 ≤ (ji8)) = true := zFq c9; clear c9; by_cases c10 : (ji8) < (l0.length : Int)
                  · rw [if_pos c10] at H
                    have c10b0 : decide ((ji8) < (l0.length : Int)) = true := zFq c10; clear c10; by_cases c11 : ((Op.bytesLess ((rdOf ByteArray.empty l0 (ji8)).toList) ((rdOf ByteArray.empty l0 x8_1).toList)) = true)
                    · rw [if_pos c11] at H
                      have c11b0 : (Op.bytesLess ((rdOf ByteArray.empty l0 (ji8)).toList) ((rdOf ByteArray.empty l0 x8_1).toList)) = true := c11; clear c11; have H' := zA H; clear H; have p101 : 0 ≤ (x8_1 : Int) := of_decide_eq_true qA; have q101 : x8_1 < (l0.length : Int) := of_decide_eq_true qA; obtain ⟨ad101, e101, hx101_0⟩ := Kd.at_string HR0.out x8_1 p101 q101; cases e101
                      replace hx101_0 := (HB.out.cell (zCq w _ hx101_0)).trans hx101_0; replace p101 := eq_true p101; replace q101 := eq_true q101; go_wp2_with (first | ((with_reducible refine zJq (f := 76) rfl ?_); refine goesL_ (some 14) rfl rfl Try.func76 (by kernel_rfl) rfl #[.string (rdOf ByteArray.empty l0 x8_1)] rfl qG ?_; (with_reducible refine (serial_Check.calls (rdOf ByteArray.empty l0 x8_1) t102 _ A5.out).mono ?_); rintro e w12 ⟨rfl, hb⟩; refine ⟨_, rfl, ?_⟩; have n0_ := zA (zV qB hb); clear HB; have HB := n0_; clear n0_; (try clear hb); have p103 : 0 ≤ ((ji8) : Int) := of_decide_eq_true qA; have q103 : (ji8) < (l0.length : Int) := of_decide_eq_true qA; obtain ⟨ad103, e103, hx103_0⟩ := Kd.at_string HR0.out (ji8) p103 q103; obtain rfl : ad101 = ad103 := (by injection e103); replace hx103_0 := (HB.out.cell (zCq w _ hx103_0)).trans hx103_0; replace p103 := eq_true p103; replace q103 := eq_true q103)); go_roundg k1
                      case measure => have := HK1.out; omega
                      case rel => exact ⟨(wrap64 (x8_1 + 1)), (by first | rfl | (simp; done) | (simp [*]; done)), H', ⟨by have := HK1.out; omega⟩, ⟨qB⟩⟩
                    rw [if_neg c11] at H; have c11b0 : (Op.bytesLess ((rdOf ByteArray.empty l0 (ji8)).toList) ((rdOf ByteArray.empty l0 x8_1).toList)) = false := by simpa using c11
                    clear c11; obtain rfl := zKq H; have p101 : 0 ≤ (x8_1 : Int) := of_decide_eq_true qA; have q101 : x8_1 < (l0.length : Int) := of_decide_eq_true qA; obtain ⟨ad101, e101, hx101_0⟩ := Kd.at_string HR0.out x8_1 p101 q101; cases e101
                    replace hx101_0 := (HB.out.cell (zCq w _ hx101_0)).trans hx101_0; replace p101 := eq_true p101; replace q101 := eq_true q101; go_wp2_with (first | ((with_reducible refine zJq (f := 76) rfl ?_); refine goesL_ (some 14) rfl rfl Try.func76 (by kernel_rfl) rfl #[.string (rdOf ByteArray.empty l0 x8_1)] rfl qG ?_; (with_reducible refine (serial_Check.calls (rdOf ByteArray.empty l0 x8_1) t102 _ A5.out).mono ?_); rintro e w13 ⟨rfl, hb⟩; refine ⟨_, rfl, ?_⟩; have n0_ := zA (zV qB hb); clear HB; have HB := n0_; clear n0_; (try clear hb); have p103 : 0 ≤ ((ji8) : Int) := of_decide_eq_true qA; have q103 : (ji8) < (l0.length : Int) := of_decide_eq_true qA; obtain ⟨ad103, e103, hx103_0⟩ := Kd.at_string HR0.out (ji8) p103 q103; obtain rfl : ad101 = ad103 := (by injection e103); replace hx103_0 := (HB.out.cell (zCq w _ hx103_0)).trans hx103_0; replace p103 := eq_true p103; replace q103 := eq_true q103)); go_ret; exact ⟨by first | rfl | (simp [errW_none, errW_some] <;> rfl) | (simp only [← hji8]; first | rfl | (simp [errW_none, errW_some] <;> rfl)) | (simp [*, errW_none, errW_some] <;> rfl), qB⟩
                  rw [if_neg c10] at H; exact absurd H (by simp)
                rw [if_neg c9] at H; exact absurd H (by simp)
              rw [if_neg c7] at H; have c7b0 : decide (0 < x8_1) = false := zGq c7; clear c7; have H' := zA H; clear H; have p101 : 0 ≤ (x8_1 : Int) := of_decide_eq_true qA; have q101 : x8_1 < (l0.length : Int) := of_decide_eq_true qA; obtain ⟨ad101, e101, hx101_0⟩ := Kd.at_string HR0.out x8_1 p101 q101; cases e101
              replace hx101_0 := (HB.out.cell (zCq w _ hx101_0)).trans hx101_0; replace p101 := eq_true p101; replace q101 := eq_true q101; go_wp2_with (first | ((with_reducible refine zJq (f := 76) rfl ?_); refine goesL_ (some 14) rfl rfl Try.func76 (by kernel_rfl) rfl #[.string (rdOf ByteArray.empty l0 x8_1)] rfl qG ?_; (with_reducible refine (serial_Check.calls (rdOf ByteArray.empty l0 x8_1) t102 _ A5.out).mono ?_); rintro e w14 ⟨rfl, hb⟩; refine ⟨_, rfl, ?_⟩; have n0_ := zA (zV qB hb); clear HB; have HB := n0_; clear n0_; (try clear hb))); go_roundg k1
              case measure => have := HK1.out; omega
              case rel => exact ⟨(wrap64 (x8_1 + 1)), (by first | rfl | (simp; done) | (simp [*]; done)), H', ⟨by have := HK1.out; omega⟩, ⟨qB⟩⟩
            rw [if_neg c6] at H; have c6b0 : (t102 == 0) = false := beq_eq_false_iff_ne.mpr c6; have c6b1 : (t102 != 0) = true := bne_iff_ne.mpr c6; obtain rfl := zKq H; have p101 : 0 ≤ (x8_1 : Int) := of_decide_eq_true qA; have q101 : x8_1 < (l0.length : Int) := of_decide_eq_true qA; obtain ⟨ad101, e101, hx101_0⟩ := Kd.at_string HR0.out x8_1 p101 q101; cases e101
            replace hx101_0 := (HB.out.cell (zCq w _ hx101_0)).trans hx101_0; replace p101 := eq_true p101; replace q101 := eq_true q101; go_wp2_with (first | ((with_reducible refine zJq (f := 76) rfl ?_); refine goesL_ (some 14) rfl rfl Try.func76 (by kernel_rfl) rfl #[.string (rdOf ByteArray.empty l0 x8_1)] rfl qG ?_; (with_reducible refine (serial_Check.calls (rdOf ByteArray.empty l0 x8_1) t102 _ A5.out).mono ?_); rintro e w15 ⟨rfl, hb⟩; refine ⟨_, rfl, ?_⟩; have n0_ := zA (zV qB hb); clear HB; have HB := n0_; clear n0_; (try clear hb))); go_ret; exact ⟨qE, qB⟩
          rw [if_neg c4] at H; exact absurd H (by simp)
        rw [if_neg c3] at H; exact absurd H (by simp)
      rw [if_neg c2] at H; have c2b0 : decide (x8_1 < (l0.length : Int)) = false := zGq c2; clear c2; obtain rfl := zKq H; go_wp2; go_ret; exact ⟨qE, qB⟩
def index_pairs.l0 : Nat → Int → List (List Int) → Int → Int → Option (Int)
  | 0, _, _, _, _ => none
  | k + 1, x3, x7, x8, x9 => if x9 < x8 then (if 0 ≤ x9 then (if x9 < (x7.length : Int) then (index_pairs.l0 k (wrap64 (x3 + ((rd_L14 x7 x9).length : Int))) x7 x8 (wrap64 (x9 + 1))) else (none)) else (none)) else (some x3)
def index_pairs.f (k : Nat) (l0_0 : List ByteArray) (l0_1 : List (List Int)) : Option (Int) := index_pairs.l0 k 0 l0_1 (l0_1.length : Int) 0
theorem index_pairs.mono_l : ∀ k, (∀ y0 y1 y2 y3, LeO (index_pairs.l0 k y0 y1 y2 y3) (index_pairs.l0 (k + 1) y0 y1 y2 y3))
  | 0 => fun _ _ _ _ r h => by simp [index_pairs.l0] at h
  | k + 1 => by
    have ih0 := index_pairs.mono_l k
    intro y0 y1 y2 y3
    unfold index_pairs.l0
    repeat' (with_reducible first | exact ih0 _ _ _ _ | exact LeO.refl _ | exact LeO.none _ | refine LeO.ite ?_ ?_ | refine LeO.bind ?_ (fun _ => ?_))
theorem index_pairs.mono : ∀ a0 a1 k, LeO (index_pairs.f k a0 a1) (index_pairs.f (k + 1) a0 a1) := by
  intro a0 a1 k
  have ih0 := index_pairs.mono_l k
  unfold index_pairs.f
  repeat' (with_reducible first | exact ih0 _ _ _ _ | exact LeO.refl _ | exact LeO.none _ | refine LeO.ite ?_ ?_ | refine LeO.bind ?_ (fun _ => ?_))
set_option maxHeartbeats 8000000 in
set_option maxRecDepth 100000 in
theorem index_pairs.calls (k : Nat) (A0_0 : Option Addr) (c0_0 : Nat) (l0_0 : List ByteArray) (A0_1 : Option Addr) (c0_1 : Nat) (l0_1 : List (List Int)) (r : Int) (w : World) (hr0_0 : Kd.C Kd.string w A0_0 l0_0.length l0_0) (hc0_0 : l0_0.length ≤ c0_0) (hr0_1 : Kd.C (Kd.slice 3 (Kd.int .i64)) w A0_1 l0_1.length l0_1) (hc0_1 : l0_1.length ≤ c0_1) (h : index_pairs.f k l0_0 l0_1 = some r) :
    Calls Try.prog 81 #[.agg #[.slice A0_0 l0_0.length c0_0, .slice A0_1 l0_1.length c0_1]] w fun e w' => e = .returned (.int .i64 r) ∧ Below w.heap.size w w' := by
  have hu51 := Try.underlying51
  have HR0_0 := zA hr0_0
  have HC0_0 := zA hc0_0
  clear hr0_0 hc0_0
  have HR0_1 := zA hr0_1
  have HC0_1 := zA hc0_1
  clear hr0_1 hc0_1
  have HB := zA (Below.refl w.heap.size w)
  have H : (index_pairs.l0 k 0 l0_1 (l0_1.length : Int) 0) = some r := h
  clear h
  have H' := zA H
  clear H
  go_enter Try.func81, Try.ntmps81
  go_wp2_with (first | ((with_reducible refine gate_dst (N := 1) rfl ?_); refine box_event qr (N := 1) qr (cs := #[.slice A0_0 l0_0.length c0_0, .slice A0_1 l0_1.length c0_1]) (t := 51) qg ?_; intro gb101 hg w2 hbox hb; have n0_ := zA (zV qB hb); have n1_ := zA (hbox); have n2_ := zA ((qS : w.heap.size ≤ gb101)); have n3_ := zA ((qS : w.heap.size ≤ gb101)); clear HB; have HB := n0_; have BK101 := n1_; have GW101 := n2_; have GE101 := n3_; clear n0_ n1_ n2_ n3_ hb hbox hg; obtain ⟨_, _, _, _⟩ := qc2f BK101.out))
  go_loopg [3, 9] k (fun kq v3 v9 w' => ∃ (x3_1 : Int) (x9_1 : Int), v3 = .int .i64 x3_1 ∧ v9 = .int .i64 x9_1 ∧ Aside0 (index_pairs.l0 kq x3_1 l0_1 (l0_1.length : Int) x9_1 = some r) ∧ Aside0 (kq ≤ k) ∧ Aside0 (w'.heap[gb101]? = some (.cells #[(.slice A0_0 l0_0.length c0_0), (.slice A0_1 l0_1.length c0_1)] 51 (0, 0))) ∧ Aside0 (Below w.heap.size w w'))
  case atStart => exact ⟨(0), (0), (by first | rfl | (simp; done) | (simp [*]; done)), (by first | rfl | (simp; done) | (simp [*]; done)), H', ⟨Nat.le_refl _⟩, ⟨by exact BK101.out⟩, ⟨qB⟩⟩
  case round =>
    clear H'; try clear p2
    obtain ⟨x3_1, x9_1, rfl, rfl, HA, HK1, BK101, HB⟩ := hrel; cases gk with
    | zero => exact absurd HA.out (by simp [index_pairs.l0])
    | succ k1 =>
      have H := HA.out; clear HA; simp only [index_pairs.l0] at H; by_cases c4 : x9_1 < (l0_1.length : Int)
      · rw [if_pos c4] at H
        have c4b0 : decide (x9_1 < (l0_1.length : Int)) = true := zFq c4; clear c4; by_cases c5 : 0 ≤ x9_1
        · rw [if_pos c5] at H
          have c5b0 : decide (0 ≤ x9_1) = true := zFq c5; clear c5; by_cases c6 : x9_1 < (l0_1.length : Int)
          · rw [if_pos c6] at H
            have c6b0 : decide (x9_1 < (l0_1.length : Int)) = true := zFq c6; clear c6; have H' := zA H; clear H; have p102 : 0 ≤ (x9_1 : Int) := of_decide_eq_true qA; have q102 : x9_1 < (l0_1.length : Int) := of_decide_eq_true qA; obtain ⟨ad102, A102_0, c102_0, e102, hx102_0, hl102_0, hi102_0⟩ := at_L14 HR0_1.out x9_1 p102 q102; cases e102
            replace hx102_0 := (HB.out.cell (zCq w _ hx102_0)).trans hx102_0; have HR102_0 := zA hi102_0; have HC102_0 := zA hl102_0; clear hi102_0 hl102_0; replace p102 := eq_true p102; replace q102 := eq_true q102; go_wp2; go_roundg k1
            case measure => have := HK1.out; omega
            case rel => exact ⟨(wrap64 (x3_1 + ((rd_L14 l0_1 x9_1).length : Int))), (wrap64 (x9_1 + 1)), (by first | rfl | (simp; done) | (simp [*]; done)), (by first | rfl | (simp; done) | (simp [*]; done)), H', ⟨by have := HK1.out; omega⟩, ⟨by exact BK101.out⟩, ⟨qB⟩⟩
          rw [if_neg c6] at H; exact absurd H (by simp)
        rw [if_neg c5] at H; exact absurd H (by simp)
      rw [if_neg c4] at H; have c4b0 : decide (x9_1 < (l0_1.length : Int)) = false := zGq c4; clear c4; obtain rfl := zKq H; go_wp2; go_ret; exact ⟨qE, qB⟩
def index_Check.j0 : Nat → Bool → List ByteArray → List (List Int) → Option (Int)
  | 0, _, _, _ => none
  | k + 1, x21, x102000, x102001 => if x21 = true then (some 40) else ((slices_ContainsFunc_index_Check_1.f k x102001).bind fun t104 => (if t104 = true then (some 40) else (some 0)))
def index_Check.f (k : Nat) (l0_0 : List ByteArray) (l0_1 : List (List Int)) : Option (Int) := (serial_Row.f k l0_0).bind fun t102 => (if t102 = 0 then (if (l0_0.length : Int) = (l0_1.length : Int) then ((index_pairs.f k l0_0 l0_1).bind fun t103 => (index_Check.j0 k (decide (t103 > 2000)) l0_0 l0_1)) else (index_Check.j0 k true l0_0 l0_1)) else (index_Check.j0 k true l0_0 l0_1))
theorem index_Check.mono_l : ∀ k, (∀ y0 y1 y2, LeO (index_Check.j0 k y0 y1 y2) (index_Check.j0 (k + 1) y0 y1 y2))
  | 0 => fun _ _ _ r h => by simp [index_Check.j0] at h
  | k + 1 => by
    have ih0 := index_Check.mono_l k
    intro y0 y1 y2
    unfold index_Check.j0
    repeat' (with_reducible first | exact ih0 _ _ _ | exact index_pairs.mono _ _ _ | exact serial_Row.mono _ _ | exact slices_ContainsFunc_index_Check_1.mono _ _ | exact LeO.refl _ | exact LeO.none _ | refine LeO.ite ?_ ?_ | refine LeO.bind ?_ (fun _ => ?_))
theorem index_Check.mono : ∀ a0 a1 k, LeO (index_Check.f k a0 a1) (index_Check.f (k + 1) a0 a1) := by
  intro a0 a1 k
  have ih0 := index_Check.mono_l k
  unfold index_Check.f
  repeat' (with_reducible first | exact ih0 _ _ _ | exact index_pairs.mono _ _ _ | exact serial_Row.mono _ _ | exact slices_ContainsFunc_index_Check_1.mono _ _ | exact LeO.refl _ | exact LeO.none _ | refine LeO.ite ?_ ?_ | refine LeO.bind ?_ (fun _ => ?_))
set_option maxHeartbeats 8000000 in
set_option maxRecDepth 100000 in
theorem index_Check.calls (k : Nat) (A0_0 : Option Addr) (c0_0 : Nat) (l0_0 : List ByteArray) (A0_1 : Option Addr) (c0_1 : Nat) (l0_1 : List (List Int)) (r : Int) (w : World) (hr0_0 : Kd.C Kd.string w A0_0 l0_0.length l0_0) (hc0_0 : l0_0.length ≤ c0_0) (hr0_1 : Kd.C (Kd.slice 3 (Kd.int .i64)) w A0_1 l0_1.length l0_1) (hc0_1 : l0_1.length ≤ c0_1) (h : index_Check.f k l0_0 l0_1 = some r) :
    Calls Try.prog 28 #[.agg #[.slice A0_0 l0_0.length c0_0, .slice A0_1 l0_1.length c0_1]] w fun e w' => e = .returned (.int .i64 r) ∧ Below w.heap.size w w' := by
  have hu51 := Try.underlying51
  have HR0_0 := zA hr0_0
  have HC0_0 := zA hc0_0
  clear hr0_0 hc0_0
  have HR0_1 := zA hr0_1
  have HC0_1 := zA hc0_1
  clear hr0_1 hc0_1
  have HB := zA (Below.refl w.heap.size w)
  have H : ((serial_Row.f k l0_0).bind fun t102 => (if t102 = 0 then (if (l0_0.length : Int) = (l0_1.length : Int) then ((index_pairs.f k l0_0 l0_1).bind fun t103 => (index_Check.j0 k (decide (t103 > 2000)) l0_0 l0_1)) else (index_Check.j0 k true l0_0 l0_1)) else (index_Check.j0 k true l0_0 l0_1))) = some r := h
  clear h
  have HC2 := zA H
  clear H
  go_enter Try.func28, Try.ntmps28
  go_upto_region 1 with (first | ((with_reducible refine gate_dst (N := 1) rfl ?_); (try (refine gate_guard (by rfl) ?_; dsimp only)); refine box_event qr (N := 1) qr (cs := #[.slice A0_0 l0_0.length c0_0, .slice A0_1 l0_1.length c0_1]) (t := 51) qg ?_; intro gb101 hg w3 hbox hb; have n0_ := zA (zV qB hb); have n1_ := zA (hbox); have n2_ := zA ((qS : w.heap.size ≤ gb101)); have n3_ := zA ((qS : w.heap.size ≤ gb101)); clear HB; have HB := n0_; have BK101 := n1_; have GW101 := n2_; have GE101 := n3_; clear n0_ n1_ n2_ n3_ hb hbox hg))
  (try simp only [Act.put, zH, zI, zJ])
  go_cut [21] (fun v21 wc => ∃ (kq : Nat) (x21_1 : Bool), v21 = .bool x21_1 ∧ Aside0 (index_Check.j0 kq x21_1 l0_0 l0_1 = some r) ∧ Aside0 (kq ≤ k) ∧ Aside0 (wc.heap[gb101]? = some (.cells #[(.slice A0_0 l0_0.length c0_0), (.slice A0_1 l0_1.length c0_1)] 51 (0, 0))) ∧ Aside0 (Below w.heap.size w wc))
  case first =>
    have H := HC2.out; clear HC2; replace H := Option.bind_eq_some_iff.mp H; obtain ⟨t102, A40, H⟩ := H; try dsimp only at H
    have A4 := zA A40; clear A40; by_cases c5 : t102 = 0
    · rw [if_pos c5] at H
      have c5b0 : (t102 == 0) = true := beq_iff_eq.mpr c5; have c5b1 : (t102 != 0) = false := bne_eq_false_iff_eq.mpr c5; clear c5; (first | rw [c5b0] | (simp only [i64_w, i32_w]; rw [c5b0]) | skip)
      by_cases c6 : (l0_0.length : Int) = (l0_1.length : Int)
      · rw [if_pos c6] at H
        have c6b0 : ((l0_0.length : Int) == (l0_1.length : Int)) = true := beq_iff_eq.mpr c6; have c6b1 : ((l0_0.length : Int) != (l0_1.length : Int)) = false := bne_eq_false_iff_eq.mpr c6; have c6b2 : (l0_0.length == l0_1.length) = true := by first | simpa using c6 | (simp at c6 ⊢; omega)
        clear c6; replace H := Option.bind_eq_some_iff.mp H; obtain ⟨t103, A70, H⟩ := H; try dsimp only at H
        have A7 := zA A70; clear A70; have H' := zA H; clear H; obtain ⟨_, _, _, _⟩ := qc2f BK101.out; go_wp2_with (first | ((with_reducible refine zJq (f := 80) rfl ?_); refine goesL_ (some 6) rfl rfl Try.func80 (by kernel_rfl) rfl #[.slice A0_0 l0_0.length c0_0] rfl qG ?_; (with_reducible refine (serial_Row.calls k _ _ l0_0 t102 _ ?side1 ?side2 A4.out).mono ?_); (case side1 => exact qC (Kd.C_below HR0_0.out HB.out)); (case side2 => exact HC0_0.out); rintro e w9 ⟨rfl, hb⟩; refine ⟨_, rfl, ?_⟩; have n0_ := zA (qX BK101.out hb); have n1_ := zA (zV qB hb); clear BK101 HB; have BK101 := n0_; have HB := n1_; clear n0_ n1_; (try clear hb); obtain ⟨_, _, _, _⟩ := qc2f BK101.out) | (go_at_call 81; (with_reducible refine (index_pairs.calls k _ _ l0_0 _ _ l0_1 t103 _ ?side1 ?side2 ?side3 ?side4 A7.out).mono ?_); (case side1 => exact qC (Kd.C_below HR0_0.out HB.out)); (case side2 => exact HC0_0.out); (case side3 => exact qC (Kd.C_below HR0_1.out HB.out)); (case side4 => exact HC0_1.out); rintro e w11 ⟨rfl, hb⟩; have n0_ := zA (qX BK101.out hb); have n1_ := zA (zV qB hb); clear BK101 HB; have BK101 := n0_; have HB := n1_; clear n0_ n1_; (try clear hb))); go_meet
        case rel => exact ⟨_, (decide (t103 > 2000)), (by first | rfl | (simp; done) | (simp [*]; done)), H', ⟨by first | omega | exact Nat.le_refl _⟩, ⟨by exact BK101.out⟩, ⟨qB⟩⟩
      rw [if_neg c6] at H; have c6b0 : ((l0_0.length : Int) == (l0_1.length : Int)) = false := beq_eq_false_iff_ne.mpr c6; have c6b1 : ((l0_0.length : Int) != (l0_1.length : Int)) = true := bne_iff_ne.mpr c6; have c6b2 : (l0_0.length == l0_1.length) = false := by first | simpa using c6 | (simp at c6 ⊢; omega)
      have H' := zA H; clear H; obtain ⟨_, _, _, _⟩ := qc2f BK101.out; go_wp2_with (first | ((with_reducible refine zJq (f := 80) rfl ?_); refine goesL_ (some 6) rfl rfl Try.func80 (by kernel_rfl) rfl #[.slice A0_0 l0_0.length c0_0] rfl qG ?_; (with_reducible refine (serial_Row.calls k _ _ l0_0 t102 _ ?side1 ?side2 A4.out).mono ?_); (case side1 => exact qC (Kd.C_below HR0_0.out HB.out)); (case side2 => exact HC0_0.out); rintro e w13 ⟨rfl, hb⟩; refine ⟨_, rfl, ?_⟩; have n0_ := zA (qX BK101.out hb); have n1_ := zA (zV qB hb); clear BK101 HB; have BK101 := n0_; have HB := n1_; clear n0_ n1_; (try clear hb); obtain ⟨_, _, _, _⟩ := qc2f BK101.out)); go_meet
      case rel => exact ⟨_, (true), (by first | rfl | (simp; done) | (simp [*]; done)), H', ⟨by first | omega | exact Nat.le_refl _⟩, ⟨by exact BK101.out⟩, ⟨qB⟩⟩
    rw [if_neg c5] at H; have c5b0 : (t102 == 0) = false := beq_eq_false_iff_ne.mpr c5; have c5b1 : (t102 != 0) = true := bne_iff_ne.mpr c5; (first | rw [c5b0] | (simp only [i64_w, i32_w]; rw [c5b0]) | skip)
    have H' := zA H; clear H; obtain ⟨_, _, _, _⟩ := qc2f BK101.out; go_wp2_with (first | ((with_reducible refine zJq (f := 80) rfl ?_); refine goesL_ (some 6) rfl rfl Try.func80 (by kernel_rfl) rfl #[.slice A0_0 l0_0.length c0_0] rfl qG ?_; (with_reducible refine (serial_Row.calls k _ _ l0_0 t102 _ ?side1 ?side2 A4.out).mono ?_); (case side1 => exact qC (Kd.C_below HR0_0.out HB.out)); (case side2 => exact HC0_0.out); rintro e w16 ⟨rfl, hb⟩; refine ⟨_, rfl, ?_⟩; have n0_ := zA (qX BK101.out hb); have n1_ := zA (zV qB hb); clear BK101 HB; have BK101 := n0_; have HB := n1_; clear n0_ n1_; (try clear hb))); go_meet
    case rel => exact ⟨_, (true), (by first | rfl | (simp; done) | (simp [*]; done)), H', ⟨by first | omega | exact Nat.le_refl _⟩, ⟨by exact BK101.out⟩, ⟨qB⟩⟩
  case rest =>
    clear HC2; try clear c2
    try clear p2
    try clear c5
    try clear c5b0
    try clear c5b1
    try clear c6
    try clear c6b0
    try clear c6b1
    try clear c6b2
    try clear c8
    obtain ⟨kq, x21_1, rfl, HA, HJ1, BK101, HB⟩ := hcut; cases kq with
    | zero => exact absurd HA.out (by simp [index_Check.j0])
    | succ kj1 =>
      have H := HA.out; clear HA; simp only [index_Check.j0] at H; by_cases c17 : x21_1 = true
      · subst c17
        have H1 : (some 40) = some r := by first | (rw [if_pos rfl] at H; exact H) | rfl
        clear H; have H := H1; clear H1; obtain rfl := zKq H; go_wp2; go_ret; exact ⟨qE, qB⟩
      replace c17 := Bool.eq_false_iff.mpr c17; subst c17; have H1 : ((slices_ContainsFunc_index_Check_1.f kj1 l0_1).bind fun t104 => (if t104 = true then (some 40) else (some 0))) = some r := by first | (rw [if_neg (show ¬ (false = true) by decide)] at H; exact H) | rfl
      clear H; have H := H1; clear H1; replace H := Option.bind_eq_some_iff.mp H; obtain ⟨t104, A180, H⟩ := H; try dsimp only at H
      have A18 := zA A180; clear A180; by_cases c19 : t104 = true
      · subst c19
        have H1 : (some 40) = some r := by first | (rw [if_pos rfl] at H; exact H) | rfl
        clear H; have H := H1; clear H1; obtain rfl := zKq H; obtain ⟨_, _, _, _⟩ := qc2f BK101.out; go_wp2_with (first | (go_at_call 84; (with_reducible refine (slices_ContainsFunc_index_Check_1.calls kj1 _ _ l0_1  true _ ?side1 ?side2 A18.out).mono ?_); (case side1 => exact qC (Kd.C_below HR0_1.out HB.out)); (case side2 => exact HC0_1.out); rintro e w' ⟨rfl, ⟨nd, rfl⟩⟩)); go_ret; exact ⟨qE, qB⟩
      replace c19 := Bool.eq_false_iff.mpr c19; subst c19; have H1 : (some 0) = some r := by first | (rw [if_neg (show ¬ (false = true) by decide)] at H; exact H) | rfl
      clear H; have H := H1; clear H1; obtain rfl := zKq H; obtain ⟨_, _, _, _⟩ := qc2f BK101.out; go_wp2_with (first | (go_at_call 84; (with_reducible refine (slices_ContainsFunc_index_Check_1.calls kj1 _ _ l0_1  false _ ?side1 ?side2 A18.out).mono ?_); (case side1 => exact qC (Kd.C_below HR0_1.out HB.out)); (case side2 => exact HC0_1.out); rintro e w' ⟨rfl, ⟨nd, rfl⟩⟩)); go_ret; exact ⟨qE, qB⟩
def cmp_isNaN_string.f (a0 : ByteArray) : Option (Bool) := some (a0.toList != a0.toList)
set_option maxHeartbeats 8000000 in
set_option maxRecDepth 100000 in
theorem cmp_isNaN_string.calls (a0 : ByteArray) (r : Bool) (w : World) (h : cmp_isNaN_string.f a0 = some r) :
    Calls Try.prog 170 #[.string a0] w fun e w' => e = .returned (.bool r) ∧ Drawn0 w w' := by
  have H : (some (a0.toList != a0.toList)) = some r := h
  clear h
  obtain rfl := zKq H
  go_enter Try.func170, Try.ntmps170
  go_wp2
  go_ret
  exact ⟨by first | rfl | (simp; done) | (simp [*]; done), by repeat (first | exact Drawn0.refl _ | apply Drawn0.step)⟩
def cmp_Less_string.f (a0 : ByteArray) (a1 : ByteArray) : Option (Bool) := (cmp_isNaN_string.f a0).bind fun t101 => (if t101 = true then ((cmp_isNaN_string.f a1).bind fun t102 => (if t102 = true then (some (Op.bytesLess a0.toList a1.toList)) else (some true))) else (some (Op.bytesLess a0.toList a1.toList)))
set_option maxHeartbeats 8000000 in
set_option maxRecDepth 100000 in
theorem cmp_Less_string.calls (a0 : ByteArray) (a1 : ByteArray) (r : Bool) (w : World) (h : cmp_Less_string.f a0 a1 = some r) :
    Calls Try.prog 156 #[.string a0, .string a1] w fun e w' => e = .returned (.bool r) ∧ Drawn0 w w' := by
  have H : ((cmp_isNaN_string.f a0).bind fun t101 => (if t101 = true then ((cmp_isNaN_string.f a1).bind fun t102 => (if t102 = true then (some (Op.bytesLess a0.toList a1.toList)) else (some true))) else (some (Op.bytesLess a0.toList a1.toList)))) = some r := h
  clear h
  replace H := Option.bind_eq_some_iff.mp H
  obtain ⟨t101, A30, H⟩ := H
  try dsimp only at H
  have A3 := zA A30
  clear A30
  by_cases c4 : t101 = true
  · subst c4
    have H1 : ((cmp_isNaN_string.f a1).bind fun t102 => (if t102 = true then (some (Op.bytesLess a0.toList a1.toList)) else (some true))) = some r := by first | (rw [if_pos rfl] at H; exact H) | rfl
    clear H; have H := H1; clear H1; replace H := Option.bind_eq_some_iff.mp H; obtain ⟨t102, A50, H⟩ := H; try dsimp only at H
    have A5 := zA A50; clear A50; by_cases c6 : t102 = true
    · subst c6
      have H1 : (some (Op.bytesLess a0.toList a1.toList)) = some r := by first | (rw [if_pos rfl] at H; exact H) | rfl
      clear H; have H := H1; clear H1; obtain rfl := zKq H; go_enter Try.func156, Try.ntmps156; go_wp2_with (first | ((with_reducible refine zJq (f := 170) rfl ?_); refine goesL_ (some 6) rfl rfl Try.func170 (by kernel_rfl) rfl #[.string a0] rfl qG ?_; (with_reducible refine (cmp_isNaN_string.calls a0 true _ A3.out).mono ?_); rintro e w' ⟨rfl, ⟨nd, rfl⟩⟩; refine ⟨_, rfl, ?_⟩) | (go_at_call 170; (with_reducible refine (cmp_isNaN_string.calls a1 true _ A5.out).mono ?_); rintro e w' ⟨rfl, ⟨nd, rfl⟩⟩)); go_ret; exact ⟨by first | rfl | (simp; done) | (simp [*]; done), by repeat (first | exact Drawn0.refl _ | apply Drawn0.step)⟩
    replace c6 := Bool.eq_false_iff.mpr c6; subst c6; have H1 : (some true) = some r := by first | (rw [if_neg (show ¬ (false = true) by decide)] at H; exact H) | rfl
    clear H; have H := H1; clear H1; obtain rfl := zKq H; go_enter Try.func156, Try.ntmps156; go_wp2_with (first | ((with_reducible refine zJq (f := 170) rfl ?_); refine goesL_ (some 6) rfl rfl Try.func170 (by kernel_rfl) rfl #[.string a0] rfl qG ?_; (with_reducible refine (cmp_isNaN_string.calls a0 true _ A3.out).mono ?_); rintro e w' ⟨rfl, ⟨nd, rfl⟩⟩; refine ⟨_, rfl, ?_⟩) | (go_at_call 170; (with_reducible refine (cmp_isNaN_string.calls a1 false _ A5.out).mono ?_); rintro e w' ⟨rfl, ⟨nd, rfl⟩⟩)); go_ret; exact ⟨by first | rfl | (simp; done) | (simp [*]; done), by repeat (first | exact Drawn0.refl _ | apply Drawn0.step)⟩
  replace c4 := Bool.eq_false_iff.mpr c4
  subst c4
  have H1 : (some (Op.bytesLess a0.toList a1.toList)) = some r := by first | (rw [if_neg (show ¬ (false = true) by decide)] at H; exact H) | rfl
  clear H
  have H := H1
  clear H1
  obtain rfl := zKq H
  go_enter Try.func156, Try.ntmps156
  go_wp2_with (first | ((with_reducible refine zJq (f := 170) rfl ?_); refine goesL_ (some 6) rfl rfl Try.func170 (by kernel_rfl) rfl #[.string a0] rfl qG ?_; (with_reducible refine (cmp_isNaN_string.calls a0 false _ A3.out).mono ?_); rintro e w' ⟨rfl, ⟨nd, rfl⟩⟩; refine ⟨_, rfl, ?_⟩))
  go_ret
  exact ⟨by first | rfl | (simp; done) | (simp [*]; done), by repeat (first | exact Drawn0.refl _ | apply Drawn0.step)⟩
def slices_isNaN_string.f (a0 : ByteArray) : Option (Bool) := some (a0.toList != a0.toList)
set_option maxHeartbeats 8000000 in
set_option maxRecDepth 100000 in
theorem slices_isNaN_string.calls (a0 : ByteArray) (r : Bool) (w : World) (h : slices_isNaN_string.f a0 = some r) :
    Calls Try.prog 157 #[.string a0] w fun e w' => e = .returned (.bool r) ∧ Drawn0 w w' := by
  have H : (some (a0.toList != a0.toList)) = some r := h
  clear h
  obtain rfl := zKq H
  go_enter Try.func157, Try.ntmps157
  go_wp2
  go_ret
  exact ⟨by first | rfl | (simp; done) | (simp [*]; done), by repeat (first | exact Drawn0.refl _ | apply Drawn0.step)⟩
def slices_BinarySearch_string_string.l0 : Nat → List ByteArray → ByteArray → Int → Int → Int → Option (Int × Bool)
  | 0, _, _, _, _, _ => none
  | k + 1, x0, x1, x6, x7, x8 => if x7 < x8 then (if 0 ≤ (wrap64 ((IntKind.u64.wrap (wrap64 (x7 + x8))) / 2)) then (if (wrap64 ((IntKind.u64.wrap (wrap64 (x7 + x8))) / 2)) < (x0.length : Int) then ((cmp_Less_string.f (rdOf ByteArray.empty x0 (wrap64 ((IntKind.u64.wrap (wrap64 (x7 + x8))) / 2))) x1).bind fun t102 => (if t102 = true then (slices_BinarySearch_string_string.l0 k x0 x1 x6 (wrap64 ((wrap64 ((IntKind.u64.wrap (wrap64 (x7 + x8))) / 2)) + 1)) x8) else (slices_BinarySearch_string_string.l0 k x0 x1 x6 x7 (wrap64 ((IntKind.u64.wrap (wrap64 (x7 + x8))) / 2))))) else (none)) else (none)) else (if x7 < x6 then (if 0 ≤ x7 then (if x7 < (x0.length : Int) then (if (rdOf ByteArray.empty x0 x7).toList = x1.toList then (some (x7, true)) else ((slices_isNaN_string.f (rdOf ByteArray.empty x0 x7)).bind fun t105 => (if t105 = true then ((slices_isNaN_string.f x1).bind fun t106 => (some (x7, t106))) else (some (x7, false))))) else (none)) else (none)) else (some (x7, false)))
def slices_BinarySearch_string_string.f (k : Nat) (l0 : List ByteArray) (a1 : ByteArray) : Option (Int × Bool) := slices_BinarySearch_string_string.l0 k l0 a1 (l0.length : Int) 0 (l0.length : Int)
theorem slices_BinarySearch_string_string.mono_l : ∀ k, (∀ y0 y1 y2 y3 y4, LeO (slices_BinarySearch_string_string.l0 k y0 y1 y2 y3 y4) (slices_BinarySearch_string_string.l0 (k + 1) y0 y1 y2 y3 y4))
  | 0 => fun _ _ _ _ _ r h => by simp [slices_BinarySearch_string_string.l0] at h
  | k + 1 => by
    have ih0 := slices_BinarySearch_string_string.mono_l k
    intro y0 y1 y2 y3 y4
    unfold slices_BinarySearch_string_string.l0
    repeat' (with_reducible first | exact ih0 _ _ _ _ _ | exact LeO.refl _ | exact LeO.none _ | refine LeO.ite ?_ ?_ | refine LeO.bind ?_ (fun _ => ?_))
theorem slices_BinarySearch_string_string.mono : ∀ a0 a1 k, LeO (slices_BinarySearch_string_string.f k a0 a1) (slices_BinarySearch_string_string.f (k + 1) a0 a1) := by
  intro a0 a1 k
  have ih0 := slices_BinarySearch_string_string.mono_l k
  unfold slices_BinarySearch_string_string.f
  repeat' (with_reducible first | exact ih0 _ _ _ _ _ | exact LeO.refl _ | exact LeO.none _ | refine LeO.ite ?_ ?_ | refine LeO.bind ?_ (fun _ => ?_))
set_option maxHeartbeats 8000000 in
set_option maxRecDepth 100000 in
theorem slices_BinarySearch_string_string.calls (k : Nat) (A0 : Option Addr) (c0 : Nat) (l0 : List ByteArray) (a1 : ByteArray) (r1 : Int) (r2 : Bool) (w : World) (hr0 : Kd.C Kd.string w A0 l0.length l0) (hc0 : l0.length ≤ c0) (h : slices_BinarySearch_string_string.f k l0 a1 = some (r1, r2)) :
    Calls Try.prog 131 #[.slice A0 l0.length c0, .string a1] w fun e w' => e = .returned (.tuple #[.int .i64 r1, .bool r2]) ∧ Drawn0 w w' := by
  have HR0 := zA hr0
  have HC0 := zA hc0
  clear hr0 hc0
  have H : (slices_BinarySearch_string_string.l0 k l0 a1 (l0.length : Int) 0 (l0.length : Int)) = some (r1, r2) := h
  clear h
  have H' := zA H
  clear H
  go_enter Try.func131, Try.ntmps131
  go_wp2
  go_loopg [7, 8] k (fun kq v7 v8 w' => ∃ (x7_1 : Int) (x8_1 : Int), v7 = .int .i64 x7_1 ∧ v8 = .int .i64 x8_1 ∧ Aside0 (slices_BinarySearch_string_string.l0 kq l0 a1 (l0.length : Int) x7_1 x8_1 = some (r1, r2)) ∧ Aside0 (kq ≤ k) ∧ Drawn0 w w')
  case atStart => exact ⟨(0), ((l0.length : Int)), (by first | rfl | (simp; done) | (simp [*]; done)), (by first | rfl | (simp; done) | (simp [*]; done)), H', ⟨Nat.le_refl _⟩, by repeat (first | exact Drawn0.refl _ | apply Drawn0.step)⟩
  case round =>
    clear H'; try clear c1
    try clear p2
    obtain ⟨x7_1, x8_1, rfl, rfl, HA, HK1, ⟨m1, rfl⟩⟩ := hrel; cases gk with
    | zero => exact absurd HA.out (by simp [slices_BinarySearch_string_string.l0])
    | succ k1 =>
      have H := HA.out; clear HA; simp only [slices_BinarySearch_string_string.l0] at H; by_cases c3 : x7_1 < x8_1
      · rw [if_pos c3] at H
        have c3b0 : decide (x7_1 < x8_1) = true := zFq c3; clear c3; obtain ⟨ji4, hji4⟩ : ∃ j_ : Int, (wrap64 ((IntKind.u64.wrap (wrap64 (x7_1 + x8_1))) / 2)) = j_ := ⟨_, rfl⟩
        replace H : (if 0 ≤ (ji4) then (if (ji4) < (l0.length : Int) then ((cmp_Less_string.f (rdOf ByteArray.empty l0 (ji4)) a1).bind fun t102 => (if t102 = true then (slices_BinarySearch_string_string.l0 k1 l0 a1 (l0.length : Int) (wrap64 ((ji4) + 1)) x8_1) else (slices_BinarySearch_string_string.l0 k1 l0 a1 (l0.length : Int) x7_1 ji4))) else (none)) else (none)) = some (r1, r2) := by first | (rw [hji4] at H; exact H) | (simp only [hji4] at H ⊢; exact H)
        have hji4w : (IntKind.i64.wrap ((IntKind.u64.wrap (wrap64 (x7_1 + x8_1))) / 2)) = ji4 := (i64_w _).trans hji4; by_cases c5 : 0 ≤ (ji4)
        · rw [if_pos c5] at H
          have c5b0 : decide (0 ≤ (ji4)) = true := zFq c5; clear c5; by_cases c6 : (ji4) < (l0.length : Int)
          · rw [if_pos c6] at H
            have c6b0 : decide ((ji4) < (l0.length : Int)) = true := zFq c6; clear c6; replace H := Option.bind_eq_some_iff.mp H; obtain ⟨t102, A70, H⟩ := H; try dsimp only at H
            have A7 := zA A70; clear A70; by_cases c8 : t102 = true
            · subst c8
              have H1 : (slices_BinarySearch_string_string.l0 k1 l0 a1 (l0.length : Int) (wrap64 ((ji4) + 1)) x8_1) = some (r1, r2) := by first | (rw [if_pos rfl] at H; exact H) | rfl
              clear H; have H := H1; clear H1; have H' := zA H; clear H; have p101 : 0 ≤ ((ji4) : Int) := of_decide_eq_true qA; have q101 : (ji4) < (l0.length : Int) := of_decide_eq_true qA; obtain ⟨ad101, e101, hx101_0⟩ := Kd.at_string HR0.out (ji4) p101 q101; cases e101
              replace p101 := eq_true p101; replace q101 := eq_true q101; go_wp2_with (first | ((with_reducible refine zJq (f := 156) rfl ?_); refine goesL_ (some 27) rfl rfl Try.func156 (by kernel_rfl) rfl #[.string (rdOf ByteArray.empty l0 (ji4)), .string a1] rfl (by (try simp only [zR, zS, zT]); first | done | (simp only [hji4]; rfl) | rfl | (simp only [zP, zQ]; rfl)) ?_; (with_reducible refine (cmp_Less_string.calls (rdOf ByteArray.empty l0 (ji4)) a1 true _ A7.out).mono ?_); rintro e w' ⟨rfl, ⟨nd, rfl⟩⟩; refine ⟨_, rfl, ?_⟩)); go_roundg k1
              case measure => have := HK1.out; omega
              case rel => exact ⟨(wrap64 ((ji4) + 1)), (x8_1), (by first | rfl | (simp; done) | (simp only [← hji4] <;> (first | rfl | simp)) | (simp [*]; done)), (by first | rfl | (simp; done) | (simp [*]; done)), H', ⟨by have := HK1.out; omega⟩, by repeat (first | exact Drawn0.refl _ | apply Drawn0.step)⟩
            replace c8 := Bool.eq_false_iff.mpr c8; subst c8; have H1 : (slices_BinarySearch_string_string.l0 k1 l0 a1 (l0.length : Int) x7_1 ji4) = some (r1, r2) := by first | (rw [if_neg (show ¬ (false = true) by decide)] at H; exact H) | rfl
            clear H; have H := H1; clear H1; have H' := zA H; clear H; have p101 : 0 ≤ ((ji4) : Int) := of_decide_eq_true qA; have q101 : (ji4) < (l0.length : Int) := of_decide_eq_true qA; obtain ⟨ad101, e101, hx101_0⟩ := Kd.at_string HR0.out (ji4) p101 q101; cases e101
            replace p101 := eq_true p101; replace q101 := eq_true q101; go_wp2_with (first | ((with_reducible refine zJq (f := 156) rfl ?_); refine goesL_ (some 27) rfl rfl Try.func156 (by kernel_rfl) rfl #[.string (rdOf ByteArray.empty l0 (ji4)), .string a1] rfl (by (try simp only [zR, zS, zT]); first | done | (simp only [hji4]; rfl) | rfl | (simp only [zP, zQ]; rfl)) ?_; (with_reducible refine (cmp_Less_string.calls (rdOf ByteArray.empty l0 (ji4)) a1 false _ A7.out).mono ?_); rintro e w' ⟨rfl, ⟨nd, rfl⟩⟩; refine ⟨_, rfl, ?_⟩)); go_roundg k1
            case measure => have := HK1.out; omega
            case rel => exact ⟨(x7_1), (ji4), (by first | rfl | (simp; done) | (simp [*]; done)), (by first | rfl | (simp; done) | (simp only [← hji4] <;> (first | rfl | simp)) | (simp [*]; done)), H', ⟨by have := HK1.out; omega⟩, by repeat (first | exact Drawn0.refl _ | apply Drawn0.step)⟩
          rw [if_neg c6] at H; exact absurd H (by simp)
        rw [if_neg c5] at H; exact absurd H (by simp)
      rw [if_neg c3] at H; have c3b0 : decide (x7_1 < x8_1) = false := zGq c3; clear c3; by_cases c9 : x7_1 < (l0.length : Int)
      · rw [if_pos c9] at H
        have c9b0 : decide (x7_1 < (l0.length : Int)) = true := zFq c9; clear c9; by_cases c10 : 0 ≤ x7_1
        · rw [if_pos c10] at H
          have c10b0 : decide (0 ≤ x7_1) = true := zFq c10; clear c10; by_cases c11 : x7_1 < (l0.length : Int)
          · rw [if_pos c11] at H
            have c11b0 : decide (x7_1 < (l0.length : Int)) = true := zFq c11; clear c11; by_cases c12 : (rdOf ByteArray.empty l0 x7_1).toList = a1.toList
            · rw [if_pos c12] at H
              have c12b0 : ((rdOf ByteArray.empty l0 x7_1).toList == a1.toList) = true := beq_iff_eq.mpr c12; have c12b1 : ((rdOf ByteArray.empty l0 x7_1).toList != a1.toList) = false := bne_eq_false_iff_eq.mpr c12; clear c12; simp only [zNq, zOq] at H; obtain ⟨rfl, rfl⟩ := H; have p103 : 0 ≤ (x7_1 : Int) := of_decide_eq_true qA; have q103 : x7_1 < (l0.length : Int) := of_decide_eq_true qA; obtain ⟨ad103, e103, hx103_0⟩ := Kd.at_string HR0.out x7_1 p103 q103; cases e103
              replace p103 := eq_true p103; replace q103 := eq_true q103; go_wp2; go_ret2; exact ⟨by first | rfl | (simp; done) | (simp [*]; done), by repeat (first | exact Drawn0.refl _ | apply Drawn0.step)⟩
            rw [if_neg c12] at H; have c12b0 : ((rdOf ByteArray.empty l0 x7_1).toList == a1.toList) = false := beq_eq_false_iff_ne.mpr c12; have c12b1 : ((rdOf ByteArray.empty l0 x7_1).toList != a1.toList) = true := bne_iff_ne.mpr c12; replace H := Option.bind_eq_some_iff.mp H; obtain ⟨t105, A130, H⟩ := H; try dsimp only at H
            have A13 := zA A130; clear A130; by_cases c14 : t105 = true
            · subst c14
              have H1 : ((slices_isNaN_string.f a1).bind fun t106 => (some (x7_1, t106))) = some (r1, r2) := by first | (rw [if_pos rfl] at H; exact H) | rfl
              clear H; have H := H1; clear H1; replace H := Option.bind_eq_some_iff.mp H; obtain ⟨t106, A150, H⟩ := H; try dsimp only at H
              have A15 := zA A150; clear A150; simp only [zNq, zOq] at H; obtain ⟨rfl, rfl⟩ := H; have p103 : 0 ≤ (x7_1 : Int) := of_decide_eq_true qA; have q103 : x7_1 < (l0.length : Int) := of_decide_eq_true qA; obtain ⟨ad103, e103, hx103_0⟩ := Kd.at_string HR0.out x7_1 p103 q103; cases e103
              replace p103 := eq_true p103; replace q103 := eq_true q103; have p104 : 0 ≤ (x7_1 : Int) := of_decide_eq_true qA; have q104 : x7_1 < (l0.length : Int) := of_decide_eq_true qA; obtain ⟨ad104, e104, hx104_0⟩ := Kd.at_string HR0.out x7_1 p104 q104; obtain rfl : ad103 = ad104 := (by injection e104)
              replace p104 := eq_true p104; replace q104 := eq_true q104; go_wp2_with (first | (go_at_call 157; (with_reducible refine (slices_isNaN_string.calls (rdOf ByteArray.empty l0 x7_1) true _ A13.out).mono ?_); rintro e w' ⟨rfl, ⟨nd, rfl⟩⟩) | (go_at_call 157; (with_reducible refine (slices_isNaN_string.calls a1 t106 _ A15.out).mono ?_); rintro e w' ⟨rfl, ⟨nd, rfl⟩⟩)); go_ret2; exact ⟨by first | rfl | (simp; done) | (simp [*]; done), by repeat (first | exact Drawn0.refl _ | apply Drawn0.step)⟩
            replace c14 := Bool.eq_false_iff.mpr c14; subst c14; have H1 : (some (x7_1, false)) = some (r1, r2) := by first | (rw [if_neg (show ¬ (false = true) by decide)] at H; exact H) | rfl
            clear H; have H := H1; clear H1; simp only [zNq, zOq] at H; obtain ⟨rfl, rfl⟩ := H; have p103 : 0 ≤ (x7_1 : Int) := of_decide_eq_true qA; have q103 : x7_1 < (l0.length : Int) := of_decide_eq_true qA; obtain ⟨ad103, e103, hx103_0⟩ := Kd.at_string HR0.out x7_1 p103 q103; cases e103
            replace p103 := eq_true p103; replace q103 := eq_true q103; have p104 : 0 ≤ (x7_1 : Int) := of_decide_eq_true qA; have q104 : x7_1 < (l0.length : Int) := of_decide_eq_true qA; obtain ⟨ad104, e104, hx104_0⟩ := Kd.at_string HR0.out x7_1 p104 q104; obtain rfl : ad103 = ad104 := (by injection e104)
            replace p104 := eq_true p104; replace q104 := eq_true q104; go_wp2_with (first | (go_at_call 157; (with_reducible refine (slices_isNaN_string.calls (rdOf ByteArray.empty l0 x7_1) false _ A13.out).mono ?_); rintro e w' ⟨rfl, ⟨nd, rfl⟩⟩)); go_ret2; exact ⟨by first | rfl | (simp; done) | (simp [*]; done), by repeat (first | exact Drawn0.refl _ | apply Drawn0.step)⟩
          rw [if_neg c11] at H; exact absurd H (by simp)
        rw [if_neg c10] at H; exact absurd H (by simp)
      rw [if_neg c9] at H; have c9b0 : decide (x7_1 < (l0.length : Int)) = false := zGq c9; clear c9; simp only [zNq, zOq] at H; obtain ⟨rfl, rfl⟩ := H; go_wp2; go_ret2; exact ⟨by first | rfl | (simp; done) | (simp [*]; done), by repeat (first | exact Drawn0.refl _ | apply Drawn0.step)⟩
def slices_Index_string_string.l0 : Nat → List ByteArray → ByteArray → Int → Int → Option (Int)
  | 0, _, _, _, _ => none
  | k + 1, x0, x1, x7, x8 => if x8 < x7 then (if 0 ≤ x8 then (if x8 < (x0.length : Int) then (if x1.toList = (rdOf ByteArray.empty x0 x8).toList then (some x8) else (slices_Index_string_string.l0 k x0 x1 x7 (wrap64 (x8 + 1)))) else (none)) else (none)) else (some (-1))
def slices_Index_string_string.f (k : Nat) (l0 : List ByteArray) (a1 : ByteArray) : Option (Int) := slices_Index_string_string.l0 k l0 a1 (l0.length : Int) 0
theorem slices_Index_string_string.mono_l : ∀ k, (∀ y0 y1 y2 y3, LeO (slices_Index_string_string.l0 k y0 y1 y2 y3) (slices_Index_string_string.l0 (k + 1) y0 y1 y2 y3))
  | 0 => fun _ _ _ _ r h => by simp [slices_Index_string_string.l0] at h
  | k + 1 => by
    have ih0 := slices_Index_string_string.mono_l k
    intro y0 y1 y2 y3
    unfold slices_Index_string_string.l0
    repeat' (with_reducible first | exact ih0 _ _ _ _ | exact LeO.refl _ | exact LeO.none _ | refine LeO.ite ?_ ?_ | refine LeO.bind ?_ (fun _ => ?_))
theorem slices_Index_string_string.mono : ∀ a0 a1 k, LeO (slices_Index_string_string.f k a0 a1) (slices_Index_string_string.f (k + 1) a0 a1) := by
  intro a0 a1 k
  have ih0 := slices_Index_string_string.mono_l k
  unfold slices_Index_string_string.f
  repeat' (with_reducible first | exact ih0 _ _ _ _ | exact LeO.refl _ | exact LeO.none _ | refine LeO.ite ?_ ?_ | refine LeO.bind ?_ (fun _ => ?_))
set_option maxHeartbeats 8000000 in
set_option maxRecDepth 100000 in
theorem slices_Index_string_string.calls (k : Nat) (A0 : Option Addr) (c0 : Nat) (l0 : List ByteArray) (a1 : ByteArray) (r : Int) (w : World) (hr0 : Kd.C Kd.string w A0 l0.length l0) (hc0 : l0.length ≤ c0) (h : slices_Index_string_string.f k l0 a1 = some r) :
    Calls Try.prog 132 #[.slice A0 l0.length c0, .string a1] w fun e w' => e = .returned (.int .i64 r) ∧ Drawn0 w w' := by
  have HR0 := zA hr0
  have HC0 := zA hc0
  clear hr0 hc0
  have H : (slices_Index_string_string.l0 k l0 a1 (l0.length : Int) 0) = some r := h
  clear h
  have H' := zA H
  clear H
  go_enter Try.func132, Try.ntmps132
  go_wp2
  go_loopg [8] k (fun kq v8 w' => ∃ (x8_1 : Int), v8 = .int .i64 x8_1 ∧ Aside0 (slices_Index_string_string.l0 kq l0 a1 (l0.length : Int) x8_1 = some r) ∧ Aside0 (kq ≤ k) ∧ Drawn0 w w')
  case atStart => exact ⟨(0), (by first | rfl | (simp; done) | (simp [*]; done)), H', ⟨Nat.le_refl _⟩, by repeat (first | exact Drawn0.refl _ | apply Drawn0.step)⟩
  case round =>
    clear H'; try clear c1
    try clear p2
    obtain ⟨x8_1, rfl, HA, HK1, ⟨m1, rfl⟩⟩ := hrel; cases gk with
    | zero => exact absurd HA.out (by simp [slices_Index_string_string.l0])
    | succ k1 =>
      have H := HA.out; clear HA; simp only [slices_Index_string_string.l0] at H; by_cases c3 : x8_1 < (l0.length : Int)
      · rw [if_pos c3] at H
        have c3b0 : decide (x8_1 < (l0.length : Int)) = true := zFq c3; clear c3; by_cases c4 : 0 ≤ x8_1
        · rw [if_pos c4] at H
          have c4b0 : decide (0 ≤ x8_1) = true := zFq c4; clear c4; by_cases c5 : x8_1 < (l0.length : Int)
          · rw [if_pos c5] at H
            have c5b0 : decide (x8_1 < (l0.length : Int)) = true := zFq c5; clear c5; by_cases c6 : a1.toList = (rdOf ByteArray.empty l0 x8_1).toList
            · rw [if_pos c6] at H
              have c6b0 : (a1.toList == (rdOf ByteArray.empty l0 x8_1).toList) = true := beq_iff_eq.mpr c6; have c6b1 : (a1.toList != (rdOf ByteArray.empty l0 x8_1).toList) = false := bne_eq_false_iff_eq.mpr c6; clear c6; obtain rfl := zKq H; have p101 : 0 ≤ (x8_1 : Int) := of_decide_eq_true qA; have q101 : x8_1 < (l0.length : Int) := of_decide_eq_true qA; obtain ⟨ad101, e101, hx101_0⟩ := Kd.at_string HR0.out x8_1 p101 q101; cases e101
              replace p101 := eq_true p101; replace q101 := eq_true q101; go_wp2; go_ret; exact ⟨by first | rfl | (simp; done) | (simp [*]; done), by repeat (first | exact Drawn0.refl _ | apply Drawn0.step)⟩
            rw [if_neg c6] at H; have c6b0 : (a1.toList == (rdOf ByteArray.empty l0 x8_1).toList) = false := beq_eq_false_iff_ne.mpr c6; have c6b1 : (a1.toList != (rdOf ByteArray.empty l0 x8_1).toList) = true := bne_iff_ne.mpr c6; have H' := zA H; clear H; have p101 : 0 ≤ (x8_1 : Int) := of_decide_eq_true qA; have q101 : x8_1 < (l0.length : Int) := of_decide_eq_true qA; obtain ⟨ad101, e101, hx101_0⟩ := Kd.at_string HR0.out x8_1 p101 q101; cases e101
            replace p101 := eq_true p101; replace q101 := eq_true q101; go_wp2; go_roundg k1
            case measure => have := HK1.out; omega
            case rel => exact ⟨(wrap64 (x8_1 + 1)), (by first | rfl | (simp; done) | (simp [*]; done)), H', ⟨by have := HK1.out; omega⟩, by repeat (first | exact Drawn0.refl _ | apply Drawn0.step)⟩
          rw [if_neg c5] at H; exact absurd H (by simp)
        rw [if_neg c4] at H; exact absurd H (by simp)
      rw [if_neg c3] at H; have c3b0 : decide (x8_1 < (l0.length : Int)) = false := zGq c3; clear c3; obtain rfl := zKq H; go_wp2; go_ret; exact ⟨by first | rfl | (simp; done) | (simp [*]; done), by repeat (first | exact Drawn0.refl _ | apply Drawn0.step)⟩
def serial_Find.f (k : Nat) (l0 : List ByteArray) (a1 : ByteArray) : Option (Int × Bool) := (serial_Row.f k l0).bind fun t101 => (if t101 = 0 then ((slices_BinarySearch_string_string.f k l0 a1).bind fun bt102 => (some (bt102.1, bt102.2))) else ((slices_Index_string_string.f k l0 a1).bind fun t104 => (some (mx t104 0, decide (t104 ≥ 0)))))
theorem serial_Find.mono : ∀ a0 a1 k, LeO (serial_Find.f k a0 a1) (serial_Find.f (k + 1) a0 a1) := by
  intro a0 a1 k
  unfold serial_Find.f
  repeat' (with_reducible first | exact serial_Row.mono _ _ | exact slices_BinarySearch_string_string.mono _ _ _ | exact slices_Index_string_string.mono _ _ _ | exact LeO.refl _ | exact LeO.none _ | refine LeO.ite ?_ ?_ | refine LeO.bind ?_ (fun _ => ?_))
set_option maxHeartbeats 8000000 in
set_option maxRecDepth 100000 in
theorem serial_Find.calls (k : Nat) (A0 : Option Addr) (c0 : Nat) (l0 : List ByteArray) (a1 : ByteArray) (r1 : Int) (r2 : Bool) (w : World) (hr0 : Kd.C Kd.string w A0 l0.length l0) (hc0 : l0.length ≤ c0) (h : serial_Find.f k l0 a1 = some (r1, r2)) :
    Calls Try.prog 85 #[.slice A0 l0.length c0, .string a1] w fun e w' => e = .returned (.tuple #[.int .i64 r1, .bool r2]) ∧ Below w.heap.size w w' := by
  have HR0 := zA hr0
  have HC0 := zA hc0
  clear hr0 hc0
  have HB := zA (Below.refl w.heap.size w)
  have H : ((serial_Row.f k l0).bind fun t101 => (if t101 = 0 then ((slices_BinarySearch_string_string.f k l0 a1).bind fun bt102 => (some (bt102.1, bt102.2))) else ((slices_Index_string_string.f k l0 a1).bind fun t104 => (some (mx t104 0, decide (t104 ≥ 0)))))) = some (r1, r2) := h
  clear h
  replace H := Option.bind_eq_some_iff.mp H
  obtain ⟨t101, A30, H⟩ := H
  try dsimp only at H
  have A3 := zA A30
  clear A30
  by_cases c4 : t101 = 0
  · rw [if_pos c4] at H
    have c4b0 : (t101 == 0) = true := beq_iff_eq.mpr c4; have c4b1 : (t101 != 0) = false := bne_eq_false_iff_eq.mpr c4; clear c4; replace H := Option.bind_eq_some_iff.mp H; obtain ⟨⟨t102, t103⟩, A50, H⟩ := H; try dsimp only at H
    have A5 := zA A50; clear A50; simp only [zNq, zOq] at H; obtain ⟨rfl, rfl⟩ := H; go_enter Try.func85, Try.ntmps85; go_wp2_with (first | ((with_reducible refine zJq (f := 80) rfl ?_); refine goesL_ (some 8) rfl rfl Try.func80 (by kernel_rfl) rfl #[.slice A0 l0.length c0] rfl qG ?_; (with_reducible refine (serial_Row.calls k _ _ l0 t101 _ ?side1 ?side2 A3.out).mono ?_); (case side1 => repeat (first | exact HR0.out | (with_reducible refine Kd.C_alloc ?_ _) | (with_reducible refine Kd.C_drewN ?_ _) | (with_reducible refine Kd.C_drew ?_))); (case side2 => exact HC0.out); rintro e w6 ⟨rfl, hb⟩; refine ⟨_, rfl, ?_⟩; have n0_ := zA (zV qB hb); clear HB; have HB := n0_; clear n0_; (try clear hb)) | ((with_reducible refine zJq (f := 131) rfl ?_); refine goesL_ (some 12) rfl rfl Try.func131 (by kernel_rfl) rfl #[.slice A0 l0.length c0, .string a1] rfl qG ?_; (with_reducible refine (slices_BinarySearch_string_string.calls k _ _ l0 a1 t102 t103 _ ?side1 ?side2 A5.out).mono ?_); (case side1 => exact qC (Kd.C_below HR0.out HB.out)); (case side2 => exact HC0.out); rintro e w' ⟨rfl, ⟨nd, rfl⟩⟩; refine ⟨_, rfl, ?_⟩)); go_ret2; exact ⟨qE, qB⟩
  rw [if_neg c4] at H
  have c4b0 : (t101 == 0) = false := beq_eq_false_iff_ne.mpr c4
  have c4b1 : (t101 != 0) = true := bne_iff_ne.mpr c4
  replace H := Option.bind_eq_some_iff.mp H
  obtain ⟨t104, A70, H⟩ := H
  try dsimp only at H
  have A7 := zA A70
  clear A70
  obtain ⟨ji8, hji8⟩ : ∃ j_ : Int, (mx t104 0) = j_ := ⟨_, rfl⟩
  replace H : (some (ji8, decide (t104 ≥ 0))) = some (r1, r2) := by first | (rw [hji8] at H; exact H) | (simp only [hji8] at H ⊢; exact H)
  (try rw [hji8] at A3)
  (try rw [hji8] at A7)
  (try (have hji8l : 0 ≤ ji8 := by (rw [← hji8]; unfold mx; (repeat' split) <;> omega)))
  (try (have hji8m : 0 ≤ ji8 := by omega))
  have hji8_ : (if t104 < 0 then 0 else t104) = ji8 := hji8
  simp only [zNq, zOq] at H
  obtain ⟨rfl, rfl⟩ := H
  go_enter Try.func85, Try.ntmps85
  go_wp2_with (first | ((with_reducible refine zJq (f := 80) rfl ?_); refine goesL_ (some 8) rfl rfl Try.func80 (by kernel_rfl) rfl #[.slice A0 l0.length c0] rfl qG ?_; (with_reducible refine (serial_Row.calls k _ _ l0 t101 _ ?side1 ?side2 A3.out).mono ?_); (case side1 => repeat (first | exact HR0.out | (with_reducible refine Kd.C_alloc ?_ _) | (with_reducible refine Kd.C_drewN ?_ _) | (with_reducible refine Kd.C_drew ?_))); (case side2 => exact HC0.out); rintro e w9 ⟨rfl, hb⟩; refine ⟨_, rfl, ?_⟩; have n0_ := zA (zV qB hb); clear HB; have HB := n0_; clear n0_; (try clear hb)) | ((with_reducible refine zJq (f := 132) rfl ?_); refine goesL_ (some 17) rfl rfl Try.func132 (by kernel_rfl) rfl #[.slice A0 l0.length c0, .string a1] rfl qG ?_; (with_reducible refine (slices_Index_string_string.calls k _ _ l0 a1 t104 _ ?side1 ?side2 A7.out).mono ?_); (case side1 => exact qC (Kd.C_below HR0.out HB.out)); (case side2 => exact HC0.out); rintro e w' ⟨rfl, ⟨nd, rfl⟩⟩; refine ⟨_, rfl, ?_⟩))
  go_ret2
  exact ⟨by first | rfl | (simp [errW_none, errW_some] <;> rfl) | (simp only [← hji8]; first | rfl | (simp [errW_none, errW_some] <;> rfl)) | (simp [*, errW_none, errW_some] <;> rfl), qB⟩
def slices_Clone_int_int_86.f (l0 : List Int) : Option (List Int) := if l0.length < 17592186044416 then some l0 else none
set_option maxHeartbeats 1000000 in
theorem slices_Clone_int_int_86.calls (A0 : Option Addr) (c0 : Nat) (l0 : List Int) (r : List Int) (w : World) (hr0 : Kd.C (Kd.int .i64) w A0 l0.length l0) (hc0 : l0.length ≤ c0) (h : slices_Clone_int_int_86.f l0 = some r) :
    Calls Try.prog 86 #[.slice A0 l0.length c0] w fun e w' => ∃ v0_ : Value, e = .returned (v0_) ∧ Kd.R (Kd.int .i64) 3 w' w.heap.size (fun _ => True) v0_ r ∧ Below w.heap.size w w' := by
  unfold slices_Clone_int_int_86.f at h
  by_cases h3 : l0.length < 17592186044416
  · rw [if_pos h3] at h
    simp only [zNq] at h; subst h; have hinf := info3; have hn := fun (W : World) => Lib.run_eql_slice_nil (P := Try.prog) W 44 3 A0 l0.length c0 0 0 Try.underlying44
    have HR0 := zA hr0; have HC0 := zA hc0; have H3 := zA h3; have HI := zA hinf; clear hr0 hc0 h3 hinf; cases A0 with
    | none =>
      have h0 : l0 = [] := by
        rcases Nat.eq_zero_or_pos l0.length with h0 | h0
        · exact List.eq_nil_of_length_eq_zero h0
        obtain ⟨ad, h, _⟩ := HR0.out.2.2 h0; cases h
      have H0 := zA h0; clear h0; go_enter Try.func86, Try.ntmps86; go_wp2; go_ret; exact ⟨_, rfl, by rw [H0.out]; exact Kd.R_nil _ _ _ _ _, by first | exact Below.refl _ _ | exact zB (Below.refl _ _) _⟩
    | some ad =>
      go_enter Try.func86, Try.ntmps86; go_wp2_with (first
        | (at_builtin; refine Kd.R_append_rows (Kd.int .i64) (Rr := ((Kd.int .i64)).K w) (w0 := w) w.heap.size rfl (.tmp 5) (.tmp 6) 44 3 _ _ rfl Try.underlying44 HI.out rfl (by decide) (by decide) (.slice (some ⟨w.heap.size, 0, none⟩) 0 0) [] l0 (some ad) l0.length c0 (fun _ => True) (fun k => some k ≠ some w.heap.size) rfl rfl ?d0 ?d1 ?d2 ?d5 (fun _ _ => trivial) ?d6 ?d7 ?d3 ?d4; (case d0 => exact R_empty_lit (Kd.int .i64) 3 w); (case d1 => exact ReadsRow.imp_ HR0.out (zD (Below.refl _ _) _) (fun _ _ h => h)); (case d2 => exact fun x cs h => (flat_int .i64) _ _ _ _ _ (((Kd.int .i64)).K_below (zD (Below.refl _ _) _) h)); (case d5 => exact fun k hk => ⟨trivial, hk⟩); (case d6 => exact zD (Below.refl _ _) _); (case d7 => simp); (case d3 => simp only [List.length_nil]; have := H3.out; omega); intro v2 w2 ho2 hb2 hg2 ha2; have HO2 := zA ho2; have HB2 := zA hb2; clear ho2 hb2 hg2 ha2))
      go_ret; exact ⟨v2, by first | rfl | (simp; rfl), by simpa using HO2.out, HB2.out⟩
  rw [if_neg h3] at h; cases h
def index_Of.f (k : Nat) (l0_0 : List ByteArray) (l0_1 : List (List Int)) (a1 : ByteArray) : Option (List Int) := (index_Check.f k l0_0 l0_1).bind fun t102 => (if t102 = 0 then ((serial_Find.f k l0_0 a1).bind fun bt103 => (if bt103.2 = true then (if 0 ≤ bt103.1 then (if bt103.1 < (l0_1.length : Int) then ((slices_Clone_int_int_86.f (rd_L14 l0_1 bt103.1)).bind fun t106 => (some t106)) else (none)) else (none)) else (some ([] : List Int)))) else (some ([] : List Int)))
theorem index_Of.mono : ∀ a0 a1 a2 k, LeO (index_Of.f k a0 a1 a2) (index_Of.f (k + 1) a0 a1 a2) := by
  intro a0 a1 a2 k
  unfold index_Of.f
  repeat' (with_reducible first | exact index_Check.mono _ _ _ | exact serial_Find.mono _ _ _ | exact LeO.refl _ | exact LeO.none _ | refine LeO.ite ?_ ?_ | refine LeO.bind ?_ (fun _ => ?_))
set_option maxHeartbeats 8000000 in
set_option maxRecDepth 100000 in
theorem index_Of.calls (k : Nat) (A0_0 : Option Addr) (c0_0 : Nat) (l0_0 : List ByteArray) (A0_1 : Option Addr) (c0_1 : Nat) (l0_1 : List (List Int)) (a1 : ByteArray) (r : List Int) (w : World) (hr0_0 : Kd.C Kd.string w A0_0 l0_0.length l0_0) (hc0_0 : l0_0.length ≤ c0_0) (hr0_1 : Kd.C (Kd.slice 3 (Kd.int .i64)) w A0_1 l0_1.length l0_1) (hc0_1 : l0_1.length ≤ c0_1) (h : index_Of.f k l0_0 l0_1 a1 = some r) :
    Calls Try.prog 29 #[.agg #[.slice A0_0 l0_0.length c0_0, .slice A0_1 l0_1.length c0_1], .string a1] w fun e w' => ∃ v0_ : Value, e = .returned (v0_) ∧ Kd.R (Kd.int .i64) 3 w' w.heap.size (fun _ => True) v0_ r ∧ Below w.heap.size w w' := by
  have hu51 := Try.underlying51
  have HR0_0 := zA hr0_0
  have HC0_0 := zA hc0_0
  clear hr0_0 hc0_0
  have HR0_1 := zA hr0_1
  have HC0_1 := zA hc0_1
  clear hr0_1 hc0_1
  have HB := zA (Below.refl w.heap.size w)
  have H : ((index_Check.f k l0_0 l0_1).bind fun t102 => (if t102 = 0 then ((serial_Find.f k l0_0 a1).bind fun bt103 => (if bt103.2 = true then (if 0 ≤ bt103.1 then (if bt103.1 < (l0_1.length : Int) then ((slices_Clone_int_int_86.f (rd_L14 l0_1 bt103.1)).bind fun t106 => (some t106)) else (none)) else (none)) else (some ([] : List Int)))) else (some ([] : List Int)))) = some r := h
  clear h
  replace H := Option.bind_eq_some_iff.mp H
  obtain ⟨t102, A30, H⟩ := H
  try dsimp only at H
  have A3 := zA A30
  clear A30
  by_cases c4 : t102 = 0
  · rw [if_pos c4] at H
    have c4b0 : (t102 == 0) = true := beq_iff_eq.mpr c4; have c4b1 : (t102 != 0) = false := bne_eq_false_iff_eq.mpr c4; clear c4; replace H := Option.bind_eq_some_iff.mp H; obtain ⟨⟨t103, t104⟩, A50, H⟩ := H; try dsimp only at H
    have A5 := zA A50; clear A50; by_cases c6 : t104 = true
    · subst c6
      have H1 : (if 0 ≤ t103 then (if t103 < (l0_1.length : Int) then ((slices_Clone_int_int_86.f (rd_L14 l0_1 t103)).bind fun t106 => (some t106)) else (none)) else (none)) = some r := by first | (rw [if_pos rfl] at H; exact H) | rfl
      clear H; have H := H1; clear H1; by_cases c7 : 0 ≤ t103
      · rw [if_pos c7] at H
        have c7b0 : decide (0 ≤ t103) = true := zFq c7; clear c7; by_cases c8 : t103 < (l0_1.length : Int)
        · rw [if_pos c8] at H
          have c8b0 : decide (t103 < (l0_1.length : Int)) = true := zFq c8; clear c8; replace H := Option.bind_eq_some_iff.mp H; obtain ⟨t106, A90, H⟩ := H; try dsimp only at H
          have A9 := zA A90; clear A90; obtain rfl := zKq H; go_enter Try.func29, Try.ntmps29; go_wp2_with (first | ((with_reducible refine gate_dst (N := 2) rfl ?_); refine box_event qr (N := 2) qr (cs := #[.slice A0_0 l0_0.length c0_0, .slice A0_1 l0_1.length c0_1]) (t := 51) qg ?_; intro gb101 hg w10 hbox hb; have n0_ := zA (zV qB hb); have n1_ := zA (hbox); have n2_ := zA ((qS : w.heap.size ≤ gb101)); have n3_ := zA ((qS : w.heap.size ≤ gb101)); clear HB; have HB := n0_; have BK101 := n1_; have GW101 := n2_; have GE101 := n3_; clear n0_ n1_ n2_ n3_ hb hbox hg; obtain ⟨_, _, _, _⟩ := qc2f BK101.out) | ((with_reducible refine zJq (f := 28) rfl ?_); refine goesL_ (some 8) rfl rfl Try.func28 (by kernel_rfl) rfl #[.agg #[.slice A0_0 l0_0.length c0_0, .slice A0_1 l0_1.length c0_1]] rfl qG ?_; (with_reducible refine (index_Check.calls k _ _ l0_0 _ _ l0_1 t102 _ ?side1 ?side2 ?side3 ?side4 A3.out).mono ?_); (case side1 => exact qC (Kd.C_below HR0_0.out HB.out)); (case side2 => exact HC0_0.out); (case side3 => exact qC (Kd.C_below HR0_1.out HB.out)); (case side4 => exact HC0_1.out); rintro e w12 ⟨rfl, hb⟩; refine ⟨_, rfl, ?_⟩; have n0_ := zA (qX BK101.out hb); have n1_ := zA (zV qB hb); clear BK101 HB; have BK101 := n0_; have HB := n1_; clear n0_ n1_; (try clear hb); obtain ⟨_, _, _, _⟩ := qc2f BK101.out) | ((with_reducible refine zJq (f := 85) rfl ?_); refine goesL_ (some 14) rfl rfl Try.func85 (by kernel_rfl) rfl #[.slice A0_0 l0_0.length c0_0, .string a1] rfl qG ?_; (with_reducible refine (serial_Find.calls k _ _ l0_0 a1 t103 true _ ?side1 ?side2 A5.out).mono ?_); (case side1 => exact qC (Kd.C_below HR0_0.out HB.out)); (case side2 => exact HC0_0.out); rintro e w14 ⟨rfl, hb⟩; refine ⟨_, rfl, ?_⟩; have n0_ := zA (qX BK101.out hb); have n1_ := zA (zV qB hb); clear BK101 HB; have BK101 := n0_; have HB := n1_; clear n0_ n1_; (try clear hb); obtain ⟨_, _, _, _⟩ := qc2f BK101.out; have p105 : 0 ≤ (t103 : Int) := of_decide_eq_true qA; have q105 : t103 < (l0_1.length : Int) := of_decide_eq_true qA; obtain ⟨ad105, A105_0, c105_0, e105, hx105_0, hl105_0, hi105_0⟩ := at_L14 HR0_1.out t103 p105 q105; cases e105; replace hx105_0 := (HB.out.cell (zCq w _ hx105_0)).trans hx105_0; have HR105_0 := zA hi105_0; have HC105_0 := zA hl105_0; clear hi105_0 hl105_0; replace p105 := eq_true p105; replace q105 := eq_true q105) | ((with_reducible refine zJq (f := 86) rfl ?_); refine goesL_ (some 24) rfl rfl Try.func86 (by kernel_rfl) rfl #[.slice A105_0 (rd_L14 l0_1 t103).length c105_0] rfl qG ?_; (with_reducible refine (slices_Clone_int_int_86.calls _ _ (rd_L14 l0_1 t103) t106 _ ?side1 ?side2 A9.out).mono ?_); (case side1 => exact qC (Kd.C_below HR105_0.out HB.out)); (case side2 => exact HC105_0.out); rintro e w16 ⟨v107, rfl, ho0, hb⟩; refine ⟨_, rfl, ?_⟩; have n0_ := zA (Kd.R_lower ho0 (zW qB)); have n1_ := zA (qX BK101.out hb); have n2_ := zA (zV qB hb); clear BK101 HB; have HO108 := n0_; have BK101 := n1_; have HB := n2_; clear n0_ n1_ n2_; (try clear hb); (try clear ho0)))
          go_ret; exact ⟨_, qE, by (with_reducible repeat (first | apply Kd.R_alloc | apply Kd.R_drewN | apply Kd.R_drew)); exact HO108.out, qB⟩
        rw [if_neg c8] at H; exact absurd H (by simp)
      rw [if_neg c7] at H; exact absurd H (by simp)
    replace c6 := Bool.eq_false_iff.mpr c6; subst c6; have H1 : (some ([] : List Int)) = some r := by first | (rw [if_neg (show ¬ (false = true) by decide)] at H; exact H) | rfl
    clear H; have H := H1; clear H1; obtain rfl := zKq H; go_enter Try.func29, Try.ntmps29; go_wp2_with (first | ((with_reducible refine gate_dst (N := 2) rfl ?_); refine box_event qr (N := 2) qr (cs := #[.slice A0_0 l0_0.length c0_0, .slice A0_1 l0_1.length c0_1]) (t := 51) qg ?_; intro gb101 hg w17 hbox hb; have n0_ := zA (zV qB hb); have n1_ := zA (hbox); have n2_ := zA ((qS : w.heap.size ≤ gb101)); have n3_ := zA ((qS : w.heap.size ≤ gb101)); clear HB; have HB := n0_; have BK101 := n1_; have GW101 := n2_; have GE101 := n3_; clear n0_ n1_ n2_ n3_ hb hbox hg; obtain ⟨_, _, _, _⟩ := qc2f BK101.out) | ((with_reducible refine zJq (f := 28) rfl ?_); refine goesL_ (some 8) rfl rfl Try.func28 (by kernel_rfl) rfl #[.agg #[.slice A0_0 l0_0.length c0_0, .slice A0_1 l0_1.length c0_1]] rfl qG ?_; (with_reducible refine (index_Check.calls k _ _ l0_0 _ _ l0_1 t102 _ ?side1 ?side2 ?side3 ?side4 A3.out).mono ?_); (case side1 => exact qC (Kd.C_below HR0_0.out HB.out)); (case side2 => exact HC0_0.out); (case side3 => exact qC (Kd.C_below HR0_1.out HB.out)); (case side4 => exact HC0_1.out); rintro e w19 ⟨rfl, hb⟩; refine ⟨_, rfl, ?_⟩; have n0_ := zA (qX BK101.out hb); have n1_ := zA (zV qB hb); clear BK101 HB; have BK101 := n0_; have HB := n1_; clear n0_ n1_; (try clear hb); obtain ⟨_, _, _, _⟩ := qc2f BK101.out) | ((with_reducible refine zJq (f := 85) rfl ?_); refine goesL_ (some 14) rfl rfl Try.func85 (by kernel_rfl) rfl #[.slice A0_0 l0_0.length c0_0, .string a1] rfl qG ?_; (with_reducible refine (serial_Find.calls k _ _ l0_0 a1 t103 false _ ?side1 ?side2 A5.out).mono ?_); (case side1 => exact qC (Kd.C_below HR0_0.out HB.out)); (case side2 => exact HC0_0.out); rintro e w21 ⟨rfl, hb⟩; refine ⟨_, rfl, ?_⟩; have n0_ := zA (qX BK101.out hb); have n1_ := zA (zV qB hb); clear BK101 HB; have BK101 := n0_; have HB := n1_; clear n0_ n1_; (try clear hb))); go_ret; exact ⟨_, qE, qN, qB⟩
  rw [if_neg c4] at H
  have c4b0 : (t102 == 0) = false := beq_eq_false_iff_ne.mpr c4
  have c4b1 : (t102 != 0) = true := bne_iff_ne.mpr c4
  obtain rfl := zKq H
  go_enter Try.func29, Try.ntmps29
  go_wp2_with (first | ((with_reducible refine gate_dst (N := 2) rfl ?_); refine box_event qr (N := 2) qr (cs := #[.slice A0_0 l0_0.length c0_0, .slice A0_1 l0_1.length c0_1]) (t := 51) qg ?_; intro gb101 hg w22 hbox hb; have n0_ := zA (zV qB hb); have n1_ := zA (hbox); have n2_ := zA ((qS : w.heap.size ≤ gb101)); have n3_ := zA ((qS : w.heap.size ≤ gb101)); clear HB; have HB := n0_; have BK101 := n1_; have GW101 := n2_; have GE101 := n3_; clear n0_ n1_ n2_ n3_ hb hbox hg; obtain ⟨_, _, _, _⟩ := qc2f BK101.out) | ((with_reducible refine zJq (f := 28) rfl ?_); refine goesL_ (some 8) rfl rfl Try.func28 (by kernel_rfl) rfl #[.agg #[.slice A0_0 l0_0.length c0_0, .slice A0_1 l0_1.length c0_1]] rfl qG ?_; (with_reducible refine (index_Check.calls k _ _ l0_0 _ _ l0_1 t102 _ ?side1 ?side2 ?side3 ?side4 A3.out).mono ?_); (case side1 => exact qC (Kd.C_below HR0_0.out HB.out)); (case side2 => exact HC0_0.out); (case side3 => exact qC (Kd.C_below HR0_1.out HB.out)); (case side4 => exact HC0_1.out); rintro e w24 ⟨rfl, hb⟩; refine ⟨_, rfl, ?_⟩; have n0_ := zA (qX BK101.out hb); have n1_ := zA (zV qB hb); clear BK101 HB; have BK101 := n0_; have HB := n1_; clear n0_ n1_; (try clear hb)))
  go_ret
  exact ⟨_, qE, qN, qB⟩
def cmp_isNaN_int.f (a0 : Int) : Option (Bool) := some (a0 != a0)
set_option maxHeartbeats 8000000 in
set_option maxRecDepth 100000 in
theorem cmp_isNaN_int.calls (a0 : Int) (r : Bool) (w : World) (h : cmp_isNaN_int.f a0 = some r) :
    Calls Try.prog 171 #[.int .i64 a0] w fun e w' => e = .returned (.bool r) ∧ Drawn0 w w' := by
  have H : (some (a0 != a0)) = some r := h
  clear h
  obtain rfl := zKq H
  go_enter Try.func171, Try.ntmps171
  go_wp2
  go_ret
  exact ⟨by first | rfl | (simp; done) | (simp [*]; done), by repeat (first | exact Drawn0.refl _ | apply Drawn0.step)⟩
def cmp_Less_int.f (a0 : Int) (a1 : Int) : Option (Bool) := (cmp_isNaN_int.f a0).bind fun t101 => (if t101 = true then ((cmp_isNaN_int.f a1).bind fun t102 => (if t102 = true then (some (decide (a0 < a1))) else (some true))) else (some (decide (a0 < a1))))
set_option maxHeartbeats 8000000 in
set_option maxRecDepth 100000 in
theorem cmp_Less_int.calls (a0 : Int) (a1 : Int) (r : Bool) (w : World) (h : cmp_Less_int.f a0 a1 = some r) :
    Calls Try.prog 158 #[.int .i64 a0, .int .i64 a1] w fun e w' => e = .returned (.bool r) ∧ Drawn0 w w' := by
  have H : ((cmp_isNaN_int.f a0).bind fun t101 => (if t101 = true then ((cmp_isNaN_int.f a1).bind fun t102 => (if t102 = true then (some (decide (a0 < a1))) else (some true))) else (some (decide (a0 < a1))))) = some r := h
  clear h
  replace H := Option.bind_eq_some_iff.mp H
  obtain ⟨t101, A30, H⟩ := H
  try dsimp only at H
  have A3 := zA A30
  clear A30
  by_cases c4 : t101 = true
  · subst c4
    have H1 : ((cmp_isNaN_int.f a1).bind fun t102 => (if t102 = true then (some (decide (a0 < a1))) else (some true))) = some r := by first | (rw [if_pos rfl] at H; exact H) | rfl
    clear H; have H := H1; clear H1; replace H := Option.bind_eq_some_iff.mp H; obtain ⟨t102, A50, H⟩ := H; try dsimp only at H
    have A5 := zA A50; clear A50; by_cases c6 : t102 = true
    · subst c6
      have H1 : (some (decide (a0 < a1))) = some r := by first | (rw [if_pos rfl] at H; exact H) | rfl
      clear H; have H := H1; clear H1; obtain rfl := zKq H; go_enter Try.func158, Try.ntmps158; go_wp2_with (first | ((with_reducible refine zJq (f := 171) rfl ?_); refine goesL_ (some 6) rfl rfl Try.func171 (by kernel_rfl) rfl #[.int .i64 a0] rfl qG ?_; (with_reducible refine (cmp_isNaN_int.calls a0 true _ A3.out).mono ?_); rintro e w' ⟨rfl, ⟨nd, rfl⟩⟩; refine ⟨_, rfl, ?_⟩) | (go_at_call 171; (with_reducible refine (cmp_isNaN_int.calls a1 true _ A5.out).mono ?_); rintro e w' ⟨rfl, ⟨nd, rfl⟩⟩)); go_ret; exact ⟨by first | rfl | (simp; done) | (simp [*]; done), by repeat (first | exact Drawn0.refl _ | apply Drawn0.step)⟩
    replace c6 := Bool.eq_false_iff.mpr c6; subst c6; have H1 : (some true) = some r := by first | (rw [if_neg (show ¬ (false = true) by decide)] at H; exact H) | rfl
    clear H; have H := H1; clear H1; obtain rfl := zKq H; go_enter Try.func158, Try.ntmps158; go_wp2_with (first | ((with_reducible refine zJq (f := 171) rfl ?_); refine goesL_ (some 6) rfl rfl Try.func171 (by kernel_rfl) rfl #[.int .i64 a0] rfl qG ?_; (with_reducible refine (cmp_isNaN_int.calls a0 true _ A3.out).mono ?_); rintro e w' ⟨rfl, ⟨nd, rfl⟩⟩; refine ⟨_, rfl, ?_⟩) | (go_at_call 171; (with_reducible refine (cmp_isNaN_int.calls a1 false _ A5.out).mono ?_); rintro e w' ⟨rfl, ⟨nd, rfl⟩⟩)); go_ret; exact ⟨by first | rfl | (simp; done) | (simp [*]; done), by repeat (first | exact Drawn0.refl _ | apply Drawn0.step)⟩
  replace c4 := Bool.eq_false_iff.mpr c4
  subst c4
  have H1 : (some (decide (a0 < a1))) = some r := by first | (rw [if_neg (show ¬ (false = true) by decide)] at H; exact H) | rfl
  clear H
  have H := H1
  clear H1
  obtain rfl := zKq H
  go_enter Try.func158, Try.ntmps158
  go_wp2_with (first | ((with_reducible refine zJq (f := 171) rfl ?_); refine goesL_ (some 6) rfl rfl Try.func171 (by kernel_rfl) rfl #[.int .i64 a0] rfl qG ?_; (with_reducible refine (cmp_isNaN_int.calls a0 false _ A3.out).mono ?_); rintro e w' ⟨rfl, ⟨nd, rfl⟩⟩; refine ⟨_, rfl, ?_⟩))
  go_ret
  exact ⟨by first | rfl | (simp; done) | (simp [*]; done), by repeat (first | exact Drawn0.refl _ | apply Drawn0.step)⟩
def slices_isNaN_int.f (a0 : Int) : Option (Bool) := some (a0 != a0)
set_option maxHeartbeats 8000000 in
set_option maxRecDepth 100000 in
theorem slices_isNaN_int.calls (a0 : Int) (r : Bool) (w : World) (h : slices_isNaN_int.f a0 = some r) :
    Calls Try.prog 159 #[.int .i64 a0] w fun e w' => e = .returned (.bool r) ∧ Drawn0 w w' := by
  have H : (some (a0 != a0)) = some r := h
  clear h
  obtain rfl := zKq H
  go_enter Try.func159, Try.ntmps159
  go_wp2
  go_ret
  exact ⟨by first | rfl | (simp; done) | (simp [*]; done), by repeat (first | exact Drawn0.refl _ | apply Drawn0.step)⟩
def slices_BinarySearch_int_int.l0 : Nat → List Int → Int → Int → Int → Int → Option (Int × Bool)
  | 0, _, _, _, _, _ => none
  | k + 1, x0, x1, x6, x7, x8 => if x7 < x8 then (if 0 ≤ (wrap64 ((IntKind.u64.wrap (wrap64 (x7 + x8))) / 2)) then (if (wrap64 ((IntKind.u64.wrap (wrap64 (x7 + x8))) / 2)) < (x0.length : Int) then ((cmp_Less_int.f (rd x0 (wrap64 ((IntKind.u64.wrap (wrap64 (x7 + x8))) / 2))) x1).bind fun t102 => (if t102 = true then (slices_BinarySearch_int_int.l0 k x0 x1 x6 (wrap64 ((wrap64 ((IntKind.u64.wrap (wrap64 (x7 + x8))) / 2)) + 1)) x8) else (slices_BinarySearch_int_int.l0 k x0 x1 x6 x7 (wrap64 ((IntKind.u64.wrap (wrap64 (x7 + x8))) / 2))))) else (none)) else (none)) else (if x7 < x6 then (if 0 ≤ x7 then (if x7 < (x0.length : Int) then (if (rd x0 x7) = x1 then (some (x7, true)) else ((slices_isNaN_int.f (rd x0 x7)).bind fun t105 => (if t105 = true then ((slices_isNaN_int.f x1).bind fun t106 => (some (x7, t106))) else (some (x7, false))))) else (none)) else (none)) else (some (x7, false)))
def slices_BinarySearch_int_int.f (k : Nat) (l0 : List Int) (a1 : Int) : Option (Int × Bool) := slices_BinarySearch_int_int.l0 k l0 a1 (l0.length : Int) 0 (l0.length : Int)
theorem slices_BinarySearch_int_int.mono_l : ∀ k, (∀ y0 y1 y2 y3 y4, LeO (slices_BinarySearch_int_int.l0 k y0 y1 y2 y3 y4) (slices_BinarySearch_int_int.l0 (k + 1) y0 y1 y2 y3 y4))
  | 0 => fun _ _ _ _ _ r h => by simp [slices_BinarySearch_int_int.l0] at h
  | k + 1 => by
    have ih0 := slices_BinarySearch_int_int.mono_l k
    intro y0 y1 y2 y3 y4
    unfold slices_BinarySearch_int_int.l0
    repeat' (with_reducible first | exact ih0 _ _ _ _ _ | exact LeO.refl _ | exact LeO.none _ | refine LeO.ite ?_ ?_ | refine LeO.bind ?_ (fun _ => ?_))
theorem slices_BinarySearch_int_int.mono : ∀ a0 a1 k, LeO (slices_BinarySearch_int_int.f k a0 a1) (slices_BinarySearch_int_int.f (k + 1) a0 a1) := by
  intro a0 a1 k
  have ih0 := slices_BinarySearch_int_int.mono_l k
  unfold slices_BinarySearch_int_int.f
  repeat' (with_reducible first | exact ih0 _ _ _ _ _ | exact LeO.refl _ | exact LeO.none _ | refine LeO.ite ?_ ?_ | refine LeO.bind ?_ (fun _ => ?_))
set_option maxHeartbeats 8000000 in
set_option maxRecDepth 100000 in
theorem slices_BinarySearch_int_int.calls (k : Nat) (A0 : Option Addr) (c0 : Nat) (l0 : List Int) (a1 : Int) (r1 : Int) (r2 : Bool) (w : World) (hr0 : Kd.C (Kd.int .i64) w A0 l0.length l0) (hc0 : l0.length ≤ c0) (h : slices_BinarySearch_int_int.f k l0 a1 = some (r1, r2)) :
    Calls Try.prog 133 #[.slice A0 l0.length c0, .int .i64 a1] w fun e w' => e = .returned (.tuple #[.int .i64 r1, .bool r2]) ∧ Drawn0 w w' := by
  have HR0 := zA hr0
  have HC0 := zA hc0
  clear hr0 hc0
  have H : (slices_BinarySearch_int_int.l0 k l0 a1 (l0.length : Int) 0 (l0.length : Int)) = some (r1, r2) := h
  clear h
  have H' := zA H
  clear H
  go_enter Try.func133, Try.ntmps133
  go_wp2
  go_loopg [7, 8] k (fun kq v7 v8 w' => ∃ (x7_1 : Int) (x8_1 : Int), v7 = .int .i64 x7_1 ∧ v8 = .int .i64 x8_1 ∧ Aside0 (slices_BinarySearch_int_int.l0 kq l0 a1 (l0.length : Int) x7_1 x8_1 = some (r1, r2)) ∧ Aside0 (kq ≤ k) ∧ Drawn0 w w')
  case atStart => exact ⟨(0), ((l0.length : Int)), (by first | rfl | (simp; done) | (simp [*]; done)), (by first | rfl | (simp; done) | (simp [*]; done)), H', ⟨Nat.le_refl _⟩, by repeat (first | exact Drawn0.refl _ | apply Drawn0.step)⟩
  case round =>
    clear H'; try clear c1
    try clear p2
    obtain ⟨x7_1, x8_1, rfl, rfl, HA, HK1, ⟨m1, rfl⟩⟩ := hrel; cases gk with
    | zero => exact absurd HA.out (by simp [slices_BinarySearch_int_int.l0])
    | succ k1 =>
      have H := HA.out; clear HA; simp only [slices_BinarySearch_int_int.l0] at H; by_cases c3 : x7_1 < x8_1
      · rw [if_pos c3] at H
        have c3b0 : decide (x7_1 < x8_1) = true := zFq c3; clear c3; obtain ⟨ji4, hji4⟩ : ∃ j_ : Int, (wrap64 ((IntKind.u64.wrap (wrap64 (x7_1 + x8_1))) / 2)) = j_ := ⟨_, rfl⟩
        replace H : (if 0 ≤ (ji4) then (if (ji4) < (l0.length : Int) then ((cmp_Less_int.f (rd l0 (ji4)) a1).bind fun t102 => (if t102 = true then (slices_BinarySearch_int_int.l0 k1 l0 a1 (l0.length : Int) (wrap64 ((ji4) + 1)) x8_1) else (slices_BinarySearch_int_int.l0 k1 l0 a1 (l0.length : Int) x7_1 ji4))) else (none)) else (none)) = some (r1, r2) := by first | (rw [hji4] at H; exact H) | (simp only [hji4] at H ⊢; exact H)
        have hji4w : (IntKind.i64.wrap ((IntKind.u64.wrap (wrap64 (x7_1 + x8_1))) / 2)) = ji4 := (i64_w _).trans hji4; by_cases c5 : 0 ≤ (ji4)
        · rw [if_pos c5] at H
          have c5b0 : decide (0 ≤ (ji4)) = true := zFq c5; clear c5; by_cases c6 : (ji4) < (l0.length : Int)
          · rw [if_pos c6] at H
            have c6b0 : decide ((ji4) < (l0.length : Int)) = true := zFq c6; clear c6; replace H := Option.bind_eq_some_iff.mp H; obtain ⟨t102, A70, H⟩ := H; try dsimp only at H
            have A7 := zA A70; clear A70; by_cases c8 : t102 = true
            · subst c8
              have H1 : (slices_BinarySearch_int_int.l0 k1 l0 a1 (l0.length : Int) (wrap64 ((ji4) + 1)) x8_1) = some (r1, r2) := by first | (rw [if_pos rfl] at H; exact H) | rfl
              clear H; have H := H1; clear H1; have H' := zA H; clear H; have p101 : 0 ≤ ((ji4) : Int) := of_decide_eq_true qA; have q101 : (ji4) < (l0.length : Int) := of_decide_eq_true qA; obtain ⟨ad101, e101, hx101_0⟩ := Kd.at_int HR0.out (ji4) p101 q101; cases e101
              replace p101 := eq_true p101; replace q101 := eq_true q101; go_wp2_with (first | ((with_reducible refine zJq (f := 158) rfl ?_); refine goesL_ (some 27) rfl rfl Try.func158 (by kernel_rfl) rfl #[.int .i64 (rd l0 (ji4)), .int .i64 a1] rfl (by (try simp only [zR, zS, zT]); first | done | (simp only [hji4]; rfl) | rfl | (simp only [zP, zQ]; rfl)) ?_; (with_reducible refine (cmp_Less_int.calls (rd l0 (ji4)) a1 true _ A7.out).mono ?_); rintro e w' ⟨rfl, ⟨nd, rfl⟩⟩; refine ⟨_, rfl, ?_⟩)); go_roundg k1
              case measure => have := HK1.out; omega
              case rel => exact ⟨(wrap64 ((ji4) + 1)), (x8_1), (by first | rfl | (simp; done) | (simp only [← hji4] <;> (first | rfl | simp)) | (simp [*]; done)), (by first | rfl | (simp; done) | (simp [*]; done)), H', ⟨by have := HK1.out; omega⟩, by repeat (first | exact Drawn0.refl _ | apply Drawn0.step)⟩
            replace c8 := Bool.eq_false_iff.mpr c8; subst c8; have H1 : (slices_BinarySearch_int_int.l0 k1 l0 a1 (l0.length : Int) x7_1 ji4) = some (r1, r2) := by first | (rw [if_neg (show ¬ (false = true) by decide)] at H; exact H) | rfl
            clear H; have H := H1; clear H1; have H' := zA H; clear H; have p101 : 0 ≤ ((ji4) : Int) := of_decide_eq_true qA; have q101 : (ji4) < (l0.length : Int) := of_decide_eq_true qA; obtain ⟨ad101, e101, hx101_0⟩ := Kd.at_int HR0.out (ji4) p101 q101; cases e101
            replace p101 := eq_true p101; replace q101 := eq_true q101; go_wp2_with (first | ((with_reducible refine zJq (f := 158) rfl ?_); refine goesL_ (some 27) rfl rfl Try.func158 (by kernel_rfl) rfl #[.int .i64 (rd l0 (ji4)), .int .i64 a1] rfl (by (try simp only [zR, zS, zT]); first | done | (simp only [hji4]; rfl) | rfl | (simp only [zP, zQ]; rfl)) ?_; (with_reducible refine (cmp_Less_int.calls (rd l0 (ji4)) a1 false _ A7.out).mono ?_); rintro e w' ⟨rfl, ⟨nd, rfl⟩⟩; refine ⟨_, rfl, ?_⟩)); go_roundg k1
            case measure => have := HK1.out; omega
            case rel => exact ⟨(x7_1), (ji4), (by first | rfl | (simp; done) | (simp [*]; done)), (by first | rfl | (simp; done) | (simp only [← hji4] <;> (first | rfl | simp)) | (simp [*]; done)), H', ⟨by have := HK1.out; omega⟩, by repeat (first | exact Drawn0.refl _ | apply Drawn0.step)⟩
          rw [if_neg c6] at H; exact absurd H (by simp)
        rw [if_neg c5] at H; exact absurd H (by simp)
      rw [if_neg c3] at H; have c3b0 : decide (x7_1 < x8_1) = false := zGq c3; clear c3; by_cases c9 : x7_1 < (l0.length : Int)
      · rw [if_pos c9] at H
        have c9b0 : decide (x7_1 < (l0.length : Int)) = true := zFq c9; clear c9; by_cases c10 : 0 ≤ x7_1
        · rw [if_pos c10] at H
          have c10b0 : decide (0 ≤ x7_1) = true := zFq c10; clear c10; by_cases c11 : x7_1 < (l0.length : Int)
          · rw [if_pos c11] at H
            have c11b0 : decide (x7_1 < (l0.length : Int)) = true := zFq c11; clear c11; by_cases c12 : (rd l0 x7_1) = a1
            · rw [if_pos c12] at H
              have c12b0 : ((rd l0 x7_1) == a1) = true := beq_iff_eq.mpr c12; have c12b1 : ((rd l0 x7_1) != a1) = false := bne_eq_false_iff_eq.mpr c12; clear c12; simp only [zNq, zOq] at H; obtain ⟨rfl, rfl⟩ := H; have p103 : 0 ≤ (x7_1 : Int) := of_decide_eq_true qA; have q103 : x7_1 < (l0.length : Int) := of_decide_eq_true qA; obtain ⟨ad103, e103, hx103_0⟩ := Kd.at_int HR0.out x7_1 p103 q103; cases e103
              replace p103 := eq_true p103; replace q103 := eq_true q103; go_wp2; go_ret2; exact ⟨by first | rfl | (simp; done) | (simp [*]; done), by repeat (first | exact Drawn0.refl _ | apply Drawn0.step)⟩
            rw [if_neg c12] at H; have c12b0 : ((rd l0 x7_1) == a1) = false := beq_eq_false_iff_ne.mpr c12; have c12b1 : ((rd l0 x7_1) != a1) = true := bne_iff_ne.mpr c12; replace H := Option.bind_eq_some_iff.mp H; obtain ⟨t105, A130, H⟩ := H; try dsimp only at H
            have A13 := zA A130; clear A130; by_cases c14 : t105 = true
            · subst c14
              have H1 : ((slices_isNaN_int.f a1).bind fun t106 => (some (x7_1, t106))) = some (r1, r2) := by first | (rw [if_pos rfl] at H; exact H) | rfl
              clear H; have H := H1; clear H1; replace H := Option.bind_eq_some_iff.mp H; obtain ⟨t106, A150, H⟩ := H; try dsimp only at H
              have A15 := zA A150; clear A150; simp only [zNq, zOq] at H; obtain ⟨rfl, rfl⟩ := H; have p103 : 0 ≤ (x7_1 : Int) := of_decide_eq_true qA; have q103 : x7_1 < (l0.length : Int) := of_decide_eq_true qA; obtain ⟨ad103, e103, hx103_0⟩ := Kd.at_int HR0.out x7_1 p103 q103; cases e103
              replace p103 := eq_true p103; replace q103 := eq_true q103; have p104 : 0 ≤ (x7_1 : Int) := of_decide_eq_true qA; have q104 : x7_1 < (l0.length : Int) := of_decide_eq_true qA; obtain ⟨ad104, e104, hx104_0⟩ := Kd.at_int HR0.out x7_1 p104 q104; obtain rfl : ad103 = ad104 := (by injection e104)
              replace p104 := eq_true p104; replace q104 := eq_true q104; go_wp2_with (first | (go_at_call 159; (with_reducible refine (slices_isNaN_int.calls (rd l0 x7_1) true _ A13.out).mono ?_); rintro e w' ⟨rfl, ⟨nd, rfl⟩⟩) | (go_at_call 159; (with_reducible refine (slices_isNaN_int.calls a1 t106 _ A15.out).mono ?_); rintro e w' ⟨rfl, ⟨nd, rfl⟩⟩)); go_ret2; exact ⟨by first | rfl | (simp; done) | (simp [*]; done), by repeat (first | exact Drawn0.refl _ | apply Drawn0.step)⟩
            replace c14 := Bool.eq_false_iff.mpr c14; subst c14; have H1 : (some (x7_1, false)) = some (r1, r2) := by first | (rw [if_neg (show ¬ (false = true) by decide)] at H; exact H) | rfl
            clear H; have H := H1; clear H1; simp only [zNq, zOq] at H; obtain ⟨rfl, rfl⟩ := H; have p103 : 0 ≤ (x7_1 : Int) := of_decide_eq_true qA; have q103 : x7_1 < (l0.length : Int) := of_decide_eq_true qA; obtain ⟨ad103, e103, hx103_0⟩ := Kd.at_int HR0.out x7_1 p103 q103; cases e103
            replace p103 := eq_true p103; replace q103 := eq_true q103; have p104 : 0 ≤ (x7_1 : Int) := of_decide_eq_true qA; have q104 : x7_1 < (l0.length : Int) := of_decide_eq_true qA; obtain ⟨ad104, e104, hx104_0⟩ := Kd.at_int HR0.out x7_1 p104 q104; obtain rfl : ad103 = ad104 := (by injection e104)
            replace p104 := eq_true p104; replace q104 := eq_true q104; go_wp2_with (first | (go_at_call 159; (with_reducible refine (slices_isNaN_int.calls (rd l0 x7_1) false _ A13.out).mono ?_); rintro e w' ⟨rfl, ⟨nd, rfl⟩⟩)); go_ret2; exact ⟨by first | rfl | (simp; done) | (simp [*]; done), by repeat (first | exact Drawn0.refl _ | apply Drawn0.step)⟩
          rw [if_neg c11] at H; exact absurd H (by simp)
        rw [if_neg c10] at H; exact absurd H (by simp)
      rw [if_neg c9] at H; have c9b0 : decide (x7_1 < (l0.length : Int)) = false := zGq c9; clear c9; simp only [zNq, zOq] at H; obtain ⟨rfl, rfl⟩ := H; go_wp2; go_ret2; exact ⟨by first | rfl | (simp; done) | (simp [*]; done), by repeat (first | exact Drawn0.refl _ | apply Drawn0.step)⟩
def slices_Index_int_int.l0 : Nat → List Int → Int → Int → Int → Option (Int)
  | 0, _, _, _, _ => none
  | k + 1, x0, x1, x7, x8 => if x8 < x7 then (if 0 ≤ x8 then (if x8 < (x0.length : Int) then (if x1 = (rd x0 x8) then (some x8) else (slices_Index_int_int.l0 k x0 x1 x7 (wrap64 (x8 + 1)))) else (none)) else (none)) else (some (-1))
def slices_Index_int_int.f (k : Nat) (l0 : List Int) (a1 : Int) : Option (Int) := slices_Index_int_int.l0 k l0 a1 (l0.length : Int) 0
theorem slices_Index_int_int.mono_l : ∀ k, (∀ y0 y1 y2 y3, LeO (slices_Index_int_int.l0 k y0 y1 y2 y3) (slices_Index_int_int.l0 (k + 1) y0 y1 y2 y3))
  | 0 => fun _ _ _ _ r h => by simp [slices_Index_int_int.l0] at h
  | k + 1 => by
    have ih0 := slices_Index_int_int.mono_l k
    intro y0 y1 y2 y3
    unfold slices_Index_int_int.l0
    repeat' (with_reducible first | exact ih0 _ _ _ _ | exact LeO.refl _ | exact LeO.none _ | refine LeO.ite ?_ ?_ | refine LeO.bind ?_ (fun _ => ?_))
theorem slices_Index_int_int.mono : ∀ a0 a1 k, LeO (slices_Index_int_int.f k a0 a1) (slices_Index_int_int.f (k + 1) a0 a1) := by
  intro a0 a1 k
  have ih0 := slices_Index_int_int.mono_l k
  unfold slices_Index_int_int.f
  repeat' (with_reducible first | exact ih0 _ _ _ _ | exact LeO.refl _ | exact LeO.none _ | refine LeO.ite ?_ ?_ | refine LeO.bind ?_ (fun _ => ?_))
set_option maxHeartbeats 8000000 in
set_option maxRecDepth 100000 in
theorem slices_Index_int_int.calls (k : Nat) (A0 : Option Addr) (c0 : Nat) (l0 : List Int) (a1 : Int) (r : Int) (w : World) (hr0 : Kd.C (Kd.int .i64) w A0 l0.length l0) (hc0 : l0.length ≤ c0) (h : slices_Index_int_int.f k l0 a1 = some r) :
    Calls Try.prog 134 #[.slice A0 l0.length c0, .int .i64 a1] w fun e w' => e = .returned (.int .i64 r) ∧ Drawn0 w w' := by
  have HR0 := zA hr0
  have HC0 := zA hc0
  clear hr0 hc0
  have H : (slices_Index_int_int.l0 k l0 a1 (l0.length : Int) 0) = some r := h
  clear h
  have H' := zA H
  clear H
  go_enter Try.func134, Try.ntmps134
  go_wp2
  go_loopg [8] k (fun kq v8 w' => ∃ (x8_1 : Int), v8 = .int .i64 x8_1 ∧ Aside0 (slices_Index_int_int.l0 kq l0 a1 (l0.length : Int) x8_1 = some r) ∧ Aside0 (kq ≤ k) ∧ Drawn0 w w')
  case atStart => exact ⟨(0), (by first | rfl | (simp; done) | (simp [*]; done)), H', ⟨Nat.le_refl _⟩, by repeat (first | exact Drawn0.refl _ | apply Drawn0.step)⟩
  case round =>
    clear H'; try clear c1
    try clear p2
    obtain ⟨x8_1, rfl, HA, HK1, ⟨m1, rfl⟩⟩ := hrel; cases gk with
    | zero => exact absurd HA.out (by simp [slices_Index_int_int.l0])
    | succ k1 =>
      have H := HA.out; clear HA; simp only [slices_Index_int_int.l0] at H; by_cases c3 : x8_1 < (l0.length : Int)
      · rw [if_pos c3] at H
        have c3b0 : decide (x8_1 < (l0.length : Int)) = true := zFq c3; clear c3; by_cases c4 : 0 ≤ x8_1
        · rw [if_pos c4] at H
          have c4b0 : decide (0 ≤ x8_1) = true := zFq c4; clear c4; by_cases c5 : x8_1 < (l0.length : Int)
          · rw [if_pos c5] at H
            have c5b0 : decide (x8_1 < (l0.length : Int)) = true := zFq c5; clear c5; by_cases c6 : a1 = (rd l0 x8_1)
            · rw [if_pos c6] at H
              have c6b0 : (a1 == (rd l0 x8_1)) = true := beq_iff_eq.mpr c6; have c6b1 : (a1 != (rd l0 x8_1)) = false := bne_eq_false_iff_eq.mpr c6; clear c6; obtain rfl := zKq H; have p101 : 0 ≤ (x8_1 : Int) := of_decide_eq_true qA; have q101 : x8_1 < (l0.length : Int) := of_decide_eq_true qA; obtain ⟨ad101, e101, hx101_0⟩ := Kd.at_int HR0.out x8_1 p101 q101; cases e101
              replace p101 := eq_true p101; replace q101 := eq_true q101; go_wp2; go_ret; exact ⟨by first | rfl | (simp; done) | (simp [*]; done), by repeat (first | exact Drawn0.refl _ | apply Drawn0.step)⟩
            rw [if_neg c6] at H; have c6b0 : (a1 == (rd l0 x8_1)) = false := beq_eq_false_iff_ne.mpr c6; have c6b1 : (a1 != (rd l0 x8_1)) = true := bne_iff_ne.mpr c6; have H' := zA H; clear H; have p101 : 0 ≤ (x8_1 : Int) := of_decide_eq_true qA; have q101 : x8_1 < (l0.length : Int) := of_decide_eq_true qA; obtain ⟨ad101, e101, hx101_0⟩ := Kd.at_int HR0.out x8_1 p101 q101; cases e101
            replace p101 := eq_true p101; replace q101 := eq_true q101; go_wp2; go_roundg k1
            case measure => have := HK1.out; omega
            case rel => exact ⟨(wrap64 (x8_1 + 1)), (by first | rfl | (simp; done) | (simp [*]; done)), H', ⟨by have := HK1.out; omega⟩, by repeat (first | exact Drawn0.refl _ | apply Drawn0.step)⟩
          rw [if_neg c5] at H; exact absurd H (by simp)
        rw [if_neg c4] at H; exact absurd H (by simp)
      rw [if_neg c3] at H; have c3b0 : decide (x8_1 < (l0.length : Int)) = false := zGq c3; clear c3; obtain rfl := zKq H; go_wp2; go_ret; exact ⟨by first | rfl | (simp; done) | (simp [*]; done), by repeat (first | exact Drawn0.refl _ | apply Drawn0.step)⟩
def rows_Find.f (k : Nat) (l0 : List Int) (a1 : Int) : Option (Int × Bool) := (rows_Rising.f k l0).bind fun t101 => (if t101 = 0 then ((slices_BinarySearch_int_int.f k l0 a1).bind fun bt102 => (some (bt102.1, bt102.2))) else ((slices_Index_int_int.f k l0 a1).bind fun t104 => (if t104 ≥ 0 then (some (t104, true)) else (some ((l0.length : Int), false)))))
theorem rows_Find.mono : ∀ a0 a1 k, LeO (rows_Find.f k a0 a1) (rows_Find.f (k + 1) a0 a1) := by
  intro a0 a1 k
  unfold rows_Find.f
  repeat' (with_reducible first | exact rows_Rising.mono _ _ | exact slices_BinarySearch_int_int.mono _ _ _ | exact slices_Index_int_int.mono _ _ _ | exact LeO.refl _ | exact LeO.none _ | refine LeO.ite ?_ ?_ | refine LeO.bind ?_ (fun _ => ?_))
set_option maxHeartbeats 8000000 in
set_option maxRecDepth 100000 in
theorem rows_Find.calls (k : Nat) (A0 : Option Addr) (c0 : Nat) (l0 : List Int) (a1 : Int) (r1 : Int) (r2 : Bool) (w : World) (hr0 : Kd.C (Kd.int .i64) w A0 l0.length l0) (hc0 : l0.length ≤ c0) (h : rows_Find.f k l0 a1 = some (r1, r2)) :
    Calls Try.prog 87 #[.slice A0 l0.length c0, .int .i64 a1] w fun e w' => e = .returned (.tuple #[.int .i64 r1, .bool r2]) ∧ Drawn0 w w' := by
  have HR0 := zA hr0
  have HC0 := zA hc0
  clear hr0 hc0
  have H : ((rows_Rising.f k l0).bind fun t101 => (if t101 = 0 then ((slices_BinarySearch_int_int.f k l0 a1).bind fun bt102 => (some (bt102.1, bt102.2))) else ((slices_Index_int_int.f k l0 a1).bind fun t104 => (if t104 ≥ 0 then (some (t104, true)) else (some ((l0.length : Int), false)))))) = some (r1, r2) := h
  clear h
  replace H := Option.bind_eq_some_iff.mp H
  obtain ⟨t101, A30, H⟩ := H
  try dsimp only at H
  have A3 := zA A30
  clear A30
  by_cases c4 : t101 = 0
  · rw [if_pos c4] at H
    have c4b0 : (t101 == 0) = true := beq_iff_eq.mpr c4; have c4b1 : (t101 != 0) = false := bne_eq_false_iff_eq.mpr c4; clear c4; replace H := Option.bind_eq_some_iff.mp H; obtain ⟨⟨t102, t103⟩, A50, H⟩ := H; try dsimp only at H
    have A5 := zA A50; clear A50; simp only [zNq, zOq] at H; obtain ⟨rfl, rfl⟩ := H; go_enter Try.func87, Try.ntmps87; go_wp2_with (first | ((with_reducible refine zJq (f := 83) rfl ?_); refine goesL_ (some 8) rfl rfl Try.func83 (by kernel_rfl) rfl #[.slice A0 l0.length c0] rfl qG ?_; (with_reducible refine (rows_Rising.calls k _ _ l0 t101 _ ?side1 ?side2 A3.out).mono ?_); (case side1 => repeat (first | exact HR0.out | (with_reducible refine Kd.C_alloc ?_ _) | (with_reducible refine Kd.C_drewN ?_ _) | (with_reducible refine Kd.C_drew ?_))); (case side2 => exact HC0.out); rintro e w' ⟨rfl, ⟨nd, rfl⟩⟩; refine ⟨_, rfl, ?_⟩) | ((with_reducible refine zJq (f := 133) rfl ?_); refine goesL_ (some 12) rfl rfl Try.func133 (by kernel_rfl) rfl #[.slice A0 l0.length c0, .int .i64 a1] rfl qG ?_; (with_reducible refine (slices_BinarySearch_int_int.calls k _ _ l0 a1 t102 t103 _ ?side1 ?side2 A5.out).mono ?_); (case side1 => repeat (first | exact HR0.out | (with_reducible refine Kd.C_alloc ?_ _) | (with_reducible refine Kd.C_drewN ?_ _) | (with_reducible refine Kd.C_drew ?_))); (case side2 => exact HC0.out); rintro e w' ⟨rfl, ⟨nd, rfl⟩⟩; refine ⟨_, rfl, ?_⟩)); go_ret2; exact ⟨by first | rfl | (simp; done) | (simp [*]; done), by repeat (first | exact Drawn0.refl _ | apply Drawn0.step)⟩
  rw [if_neg c4] at H
  have c4b0 : (t101 == 0) = false := beq_eq_false_iff_ne.mpr c4
  have c4b1 : (t101 != 0) = true := bne_iff_ne.mpr c4
  replace H := Option.bind_eq_some_iff.mp H
  obtain ⟨t104, A60, H⟩ := H
  try dsimp only at H
  have A6 := zA A60
  clear A60
  by_cases c7 : t104 ≥ 0
  · rw [if_pos c7] at H
    have c7b0 : decide (0 ≤ t104) = true := zFq c7; clear c7; simp only [zNq, zOq] at H; obtain ⟨rfl, rfl⟩ := H; go_enter Try.func87, Try.ntmps87; go_wp2_with (first | ((with_reducible refine zJq (f := 83) rfl ?_); refine goesL_ (some 8) rfl rfl Try.func83 (by kernel_rfl) rfl #[.slice A0 l0.length c0] rfl qG ?_; (with_reducible refine (rows_Rising.calls k _ _ l0 t101 _ ?side1 ?side2 A3.out).mono ?_); (case side1 => repeat (first | exact HR0.out | (with_reducible refine Kd.C_alloc ?_ _) | (with_reducible refine Kd.C_drewN ?_ _) | (with_reducible refine Kd.C_drew ?_))); (case side2 => exact HC0.out); rintro e w' ⟨rfl, ⟨nd, rfl⟩⟩; refine ⟨_, rfl, ?_⟩) | ((with_reducible refine zJq (f := 134) rfl ?_); refine goesL_ (some 17) rfl rfl Try.func134 (by kernel_rfl) rfl #[.slice A0 l0.length c0, .int .i64 a1] rfl qG ?_; (with_reducible refine (slices_Index_int_int.calls k _ _ l0 a1 t104 _ ?side1 ?side2 A6.out).mono ?_); (case side1 => repeat (first | exact HR0.out | (with_reducible refine Kd.C_alloc ?_ _) | (with_reducible refine Kd.C_drewN ?_ _) | (with_reducible refine Kd.C_drew ?_))); (case side2 => exact HC0.out); rintro e w' ⟨rfl, ⟨nd, rfl⟩⟩; refine ⟨_, rfl, ?_⟩)); go_ret2; exact ⟨by first | rfl | (simp; done) | (simp [*]; done), by repeat (first | exact Drawn0.refl _ | apply Drawn0.step)⟩
  rw [if_neg c7] at H
  have c7b0 : decide (0 ≤ t104) = false := zGq c7
  clear c7
  simp only [zNq, zOq] at H
  obtain ⟨rfl, rfl⟩ := H
  go_enter Try.func87, Try.ntmps87
  go_wp2_with (first | ((with_reducible refine zJq (f := 83) rfl ?_); refine goesL_ (some 8) rfl rfl Try.func83 (by kernel_rfl) rfl #[.slice A0 l0.length c0] rfl qG ?_; (with_reducible refine (rows_Rising.calls k _ _ l0 t101 _ ?side1 ?side2 A3.out).mono ?_); (case side1 => repeat (first | exact HR0.out | (with_reducible refine Kd.C_alloc ?_ _) | (with_reducible refine Kd.C_drewN ?_ _) | (with_reducible refine Kd.C_drew ?_))); (case side2 => exact HC0.out); rintro e w' ⟨rfl, ⟨nd, rfl⟩⟩; refine ⟨_, rfl, ?_⟩) | ((with_reducible refine zJq (f := 134) rfl ?_); refine goesL_ (some 17) rfl rfl Try.func134 (by kernel_rfl) rfl #[.slice A0 l0.length c0, .int .i64 a1] rfl qG ?_; (with_reducible refine (slices_Index_int_int.calls k _ _ l0 a1 t104 _ ?side1 ?side2 A6.out).mono ?_); (case side1 => repeat (first | exact HR0.out | (with_reducible refine Kd.C_alloc ?_ _) | (with_reducible refine Kd.C_drewN ?_ _) | (with_reducible refine Kd.C_drew ?_))); (case side2 => exact HC0.out); rintro e w' ⟨rfl, ⟨nd, rfl⟩⟩; refine ⟨_, rfl, ?_⟩))
  go_ret2
  exact ⟨by first | rfl | (simp; done) | (simp [*]; done), by repeat (first | exact Drawn0.refl _ | apply Drawn0.step)⟩
def index_Under.l0 : Nat → Int → List ByteArray → List (List Int) → Int → Int → List ByteArray → List (List Int) → Option (List ByteArray)
  | 0, _, _, _, _, _, _, _ => none
  | k + 1, x1, x5, x14, x15, x16, x102000, x102001 => if x16 < x15 then (if 0 ≤ x16 then (if x16 < (x14.length : Int) then ((rows_Find.f k (rd_L14 x14 x16) x1).bind fun bt104 => (if bt104.2 = true then (if x16 < (x102000.length : Int) then (if x5.length < 8796093022208 then (index_Under.l0 k x1 (x5 ++ [rdOf ByteArray.empty x102000 x16]) x14 x15 (wrap64 (x16 + 1)) x102000 x102001) else (none)) else (none)) else (index_Under.l0 k x1 x5 x14 x15 (wrap64 (x16 + 1)) x102000 x102001))) else (none)) else (none)) else (some x5)
def index_Under.f (k : Nat) (l0_0 : List ByteArray) (l0_1 : List (List Int)) (a1 : Int) : Option (List ByteArray) := (index_Check.f k l0_0 l0_1).bind fun t102 => (if t102 = 0 then (index_Under.l0 k a1 ([] : List ByteArray) l0_1 (l0_1.length : Int) 0 l0_0 l0_1) else (some ([] : List ByteArray)))
theorem index_Under.mono_l : ∀ k, (∀ y0 y1 y2 y3 y4 y5 y6, LeO (index_Under.l0 k y0 y1 y2 y3 y4 y5 y6) (index_Under.l0 (k + 1) y0 y1 y2 y3 y4 y5 y6))
  | 0 => fun _ _ _ _ _ _ _ r h => by simp [index_Under.l0] at h
  | k + 1 => by
    have ih0 := index_Under.mono_l k
    intro y0 y1 y2 y3 y4 y5 y6
    unfold index_Under.l0
    repeat' (with_reducible first | exact ih0 _ _ _ _ _ _ _ | exact index_Check.mono _ _ _ | exact rows_Find.mono _ _ _ | exact LeO.refl _ | exact LeO.none _ | refine LeO.ite ?_ ?_ | refine LeO.bind ?_ (fun _ => ?_))
theorem index_Under.mono : ∀ a0 a1 a2 k, LeO (index_Under.f k a0 a1 a2) (index_Under.f (k + 1) a0 a1 a2) := by
  intro a0 a1 a2 k
  have ih0 := index_Under.mono_l k
  unfold index_Under.f
  repeat' (with_reducible first | exact ih0 _ _ _ _ _ _ _ | exact index_Check.mono _ _ _ | exact rows_Find.mono _ _ _ | exact LeO.refl _ | exact LeO.none _ | refine LeO.ite ?_ ?_ | refine LeO.bind ?_ (fun _ => ?_))
set_option maxHeartbeats 8000000 in
set_option maxRecDepth 100000 in
theorem index_Under.calls (k : Nat) (A0_0 : Option Addr) (c0_0 : Nat) (l0_0 : List ByteArray) (A0_1 : Option Addr) (c0_1 : Nat) (l0_1 : List (List Int)) (a1 : Int) (r : List ByteArray) (w : World) (hr0_0 : Kd.C Kd.string w A0_0 l0_0.length l0_0) (hc0_0 : l0_0.length ≤ c0_0) (hr0_1 : Kd.C (Kd.slice 3 (Kd.int .i64)) w A0_1 l0_1.length l0_1) (hc0_1 : l0_1.length ≤ c0_1) (h : index_Under.f k l0_0 l0_1 a1 = some r) :
    Calls Try.prog 30 #[.agg #[.slice A0_0 l0_0.length c0_0, .slice A0_1 l0_1.length c0_1], .int .i64 a1] w fun e w' => ∃ v0_ : Value, e = .returned (v0_) ∧ Kd.R Kd.string 9 w' w.heap.size (fun _ => True) v0_ r ∧ Below w.heap.size w w' := by
  have hu51 := Try.underlying51
  have HR0_0 := zA hr0_0
  have HC0_0 := zA hc0_0
  clear hr0_0 hc0_0
  have HR0_1 := zA hr0_1
  have HC0_1 := zA hc0_1
  clear hr0_1 hc0_1
  have HB := zA (Below.refl w.heap.size w)
  have H : ((index_Check.f k l0_0 l0_1).bind fun t102 => (if t102 = 0 then (index_Under.l0 k a1 ([] : List ByteArray) l0_1 (l0_1.length : Int) 0 l0_0 l0_1) else (some ([] : List ByteArray)))) = some r := h
  clear h
  replace H := Option.bind_eq_some_iff.mp H
  obtain ⟨t102, A30, H⟩ := H
  try dsimp only at H
  have A3 := zA A30
  clear A30
  by_cases c4 : t102 = 0
  · rw [if_pos c4] at H
    have c4b0 : (t102 == 0) = true := beq_iff_eq.mpr c4; have c4b1 : (t102 != 0) = false := bne_eq_false_iff_eq.mpr c4; clear c4; have H' := zA H; clear H; go_enter Try.func30, Try.ntmps30; go_wp2_with (first | ((with_reducible refine gate_dst (N := 2) rfl ?_); refine box_event qr (N := 2) qr (cs := #[.slice A0_0 l0_0.length c0_0, .slice A0_1 l0_1.length c0_1]) (t := 51) qg ?_; intro gb101 hg w5 hbox hb; have n0_ := zA (zV qB hb); have n1_ := zA (hbox); have n2_ := zA ((qS : w.heap.size ≤ gb101)); have n3_ := zA ((qS : w.heap.size ≤ gb101)); clear HB; have HB := n0_; have BK101 := n1_; have GW101 := n2_; have GE101 := n3_; clear n0_ n1_ n2_ n3_ hb hbox hg; obtain ⟨_, _, _, _⟩ := qc2f BK101.out) | ((with_reducible refine zJq (f := 28) rfl ?_); refine goesL_ (some 11) rfl rfl Try.func28 (by kernel_rfl) rfl #[.agg #[.slice A0_0 l0_0.length c0_0, .slice A0_1 l0_1.length c0_1]] rfl qG ?_; (with_reducible refine (index_Check.calls k _ _ l0_0 _ _ l0_1 t102 _ ?side1 ?side2 ?side3 ?side4 A3.out).mono ?_); (case side1 => exact qC (Kd.C_below HR0_0.out HB.out)); (case side2 => exact HC0_0.out); (case side3 => exact qC (Kd.C_below HR0_1.out HB.out)); (case side4 => exact HC0_1.out); rintro e w7 ⟨rfl, hb⟩; refine ⟨_, rfl, ?_⟩; have n0_ := zA (qX BK101.out hb); have n1_ := zA (zV qB hb); clear BK101 HB; have BK101 := n0_; have HB := n1_; clear n0_ n1_; (try clear hb); obtain ⟨_, _, _, _⟩ := qc2f BK101.out)); go_loopg [5, 16] k (fun kq v5 v16 w' => ∃ (x5_1 : List ByteArray) (x16_1 : Int), v16 = .int .i64 x16_1 ∧ Aside0 (index_Under.l0 kq a1 x5_1 l0_1 (l0_1.length : Int) x16_1 l0_0 l0_1 = some r) ∧ Aside0 (kq ≤ k) ∧ Aside0 (Kd.R Kd.string 9 w' w.heap.size (fun _ => True) v5 x5_1) ∧ Aside0 (w'.heap[gb101]? = some (.cells #[(.slice A0_0 l0_0.length c0_0), (.slice A0_1 l0_1.length c0_1)] 51 (0, 0))) ∧ Aside0 (Below w.heap.size w w'))
    case atStart => exact ⟨(([] : List ByteArray)), (0), (by first | rfl | (simp; done) | (simp [*]; done)), H', ⟨Nat.le_refl _⟩, ⟨qN⟩, ⟨by exact BK101.out⟩, ⟨qB⟩⟩
    case round =>
      clear H'; try clear c2
      try clear p2
      try clear c3
      try clear c4
      try clear c4b0
      try clear c4b1
      obtain ⟨x5_1, x16_1, rfl, HA, HK1, HO_5, BK101, HB⟩ := hrel; cases gk with
      | zero => exact absurd HA.out (by simp [index_Under.l0])
      | succ k1 =>
        have H := HA.out; clear HA; simp only [index_Under.l0] at H; by_cases c9 : x16_1 < (l0_1.length : Int)
        · rw [if_pos c9] at H
          have c9b0 : decide (x16_1 < (l0_1.length : Int)) = true := zFq c9; clear c9; by_cases c10 : 0 ≤ x16_1
          · rw [if_pos c10] at H
            have c10b0 : decide (0 ≤ x16_1) = true := zFq c10; clear c10; by_cases c11 : x16_1 < (l0_1.length : Int)
            · rw [if_pos c11] at H
              have c11b0 : decide (x16_1 < (l0_1.length : Int)) = true := zFq c11; clear c11; replace H := Option.bind_eq_some_iff.mp H; obtain ⟨⟨t104, t105⟩, A120, H⟩ := H; try dsimp only at H
              have A12 := zA A120; clear A120; by_cases c13 : t105 = true
              · subst c13
                have H1 : (if x16_1 < (l0_0.length : Int) then (if x5_1.length < 8796093022208 then (index_Under.l0 k1 a1 (x5_1 ++ [rdOf ByteArray.empty l0_0 x16_1]) l0_1 (l0_1.length : Int) (wrap64 (x16_1 + 1)) l0_0 l0_1) else (none)) else (none)) = some r := by first | (rw [if_pos rfl] at H; exact H) | rfl
                clear H; have H := H1; clear H1; by_cases c14 : x16_1 < (l0_0.length : Int)
                · rw [if_pos c14] at H
                  have c14b0 : decide (x16_1 < (l0_0.length : Int)) = true := zFq c14; clear c14; by_cases c15 : x5_1.length < 8796093022208
                  · rw [if_pos c15] at H
                    have LMc15 := zA c15; clear c15; obtain ⟨y107, hy107⟩ : ∃ y_ : List ByteArray, y_ = (x5_1 ++ [rdOf ByteArray.empty l0_0 x16_1]) := ⟨_, rfl⟩
                    replace H : (index_Under.l0 k1 a1 y107 l0_1 (l0_1.length : Int) (wrap64 (x16_1 + 1)) l0_0 l0_1) = some r := by first | (rw [hy107]; with_reducible exact H) | (have H2_ := (Option.bind_some _ _).symm.trans H; rw [hy107]; with_reducible exact H2_) | (have H2_ := (Option.bind_some _ _).symm.trans H; with_reducible exact H2_) | with_reducible exact H | (rw [hy107]; exact H) | exact H
                    have Ny107 := zA hy107; clear hy107; have H' := zA H; clear H; have p103 : 0 ≤ (x16_1 : Int) := of_decide_eq_true qA; have q103 : x16_1 < (l0_1.length : Int) := of_decide_eq_true qA; obtain ⟨ad103, A103_0, c103_0, e103, hx103_0, hl103_0, hi103_0⟩ := at_L14 HR0_1.out x16_1 p103 q103; cases e103
                    replace hx103_0 := (HB.out.cell (zCq w _ hx103_0)).trans hx103_0; have HR103_0 := zA hi103_0; have HC103_0 := zA hl103_0; clear hi103_0 hl103_0; replace p103 := eq_true p103; replace q103 := eq_true q103; go_wp2_with (first | ((with_reducible refine zJq (f := 87) rfl ?_); refine goesL_ (some 24) rfl rfl Try.func87 (by kernel_rfl) rfl #[.slice A103_0 (rd_L14 l0_1 x16_1).length c103_0, .int .i64 a1] rfl qG ?_; (with_reducible refine (rows_Find.calls k1 _ _ (rd_L14 l0_1 x16_1) a1 t104 true _ ?side1 ?side2 A12.out).mono ?_); (case side1 => exact qC (Kd.C_below HR103_0.out HB.out)); (case side2 => exact HC103_0.out); rintro e w' ⟨rfl, ⟨nd, rfl⟩⟩; refine ⟨_, rfl, ?_⟩; obtain ⟨_, _, _, _⟩ := qc2f BK101.out; have p106 : 0 ≤ (x16_1 : Int) := of_decide_eq_true qA; have q106 : x16_1 < (l0_0.length : Int) := of_decide_eq_true qA; obtain ⟨ad106, e106, hx106_0⟩ := Kd.at_string HR0_0.out x16_1 p106 q106; cases e106; replace hx106_0 := (HB.out.cell (zCq w _ hx106_0)).trans hx106_0; replace p106 := eq_true p106; replace q106 := eq_true q106) | ((with_reducible refine gate_builtin (b := .append) (xs := #[.tmp 28, .tmp 34]) rfl ?_); at_builtin; refine Kd.R_append Kd.string (w0 := w) w.heap.size rfl (.tmp 28) (.tmp 34) 46 9 (.string ⟨#[]⟩) 16 rfl Try.underlying46 info9 rfl (by decide) (by omega) u5 x5_1 (rdOf ByteArray.empty l0_0 x16_1) [.string (rdOf ByteArray.empty l0_0 x16_1)] (fun _ => True) (fun _ => False) rfl rfl ?aP (fun _ hk => hk.elim) ?aF ?aO ?aB ?aS ?aL ?_; (case aP => exact rfl); (case aB => exact qB); (case aF => exact (fun _ _ => trivial)); (case aO => exact (by (with_reducible repeat (first | apply Kd.R_alloc | apply Kd.R_drewN | apply Kd.R_drew)); exact HO_5.out)); (case aS => exact (zW qB)); (case aL => have := LMc15.out; omega); intro v108 w17 ho hb hg hat; rw [← Ny107.out] at ho; have n0_ := zA (blk_grown (g := gb101) (o := .cells #[.slice (some ad106) l0_0.length c0_0, .slice (some ad103) l0_1.length c0_1] 51 (0, 0)) (qW BK101.out) hg (Kd.R_ne HO_5.out BK101.out (by decide))); have n1_ := zA (hb); have n2_ := zA (ho); clear BK101 HB HO_5; have BK101 := n0_; have HB := n1_; have HO109 := n2_; clear n0_ n1_ n2_ ho hb hg hat)); go_roundg k1
                    case measure => have := HK1.out; omega
                    case rel => exact ⟨(y107), (wrap64 (x16_1 + 1)), (by first | rfl | (simp; done) | (simp [*]; done)), H', ⟨by have := HK1.out; omega⟩, ⟨by (with_reducible repeat (first | apply Kd.R_alloc | apply Kd.R_drewN | apply Kd.R_drew)); exact HO109.out⟩, ⟨by exact BK101.out⟩, ⟨qB⟩⟩
                  rw [if_neg c15] at H; exact absurd H (by simp)
                rw [if_neg c14] at H; exact absurd H (by simp)
              replace c13 := Bool.eq_false_iff.mpr c13; subst c13; have H1 : (index_Under.l0 k1 a1 x5_1 l0_1 (l0_1.length : Int) (wrap64 (x16_1 + 1)) l0_0 l0_1) = some r := by first | (rw [if_neg (show ¬ (false = true) by decide)] at H; exact H) | rfl
              clear H; have H := H1; clear H1; have H' := zA H; clear H; have p103 : 0 ≤ (x16_1 : Int) := of_decide_eq_true qA; have q103 : x16_1 < (l0_1.length : Int) := of_decide_eq_true qA; obtain ⟨ad103, A103_0, c103_0, e103, hx103_0, hl103_0, hi103_0⟩ := at_L14 HR0_1.out x16_1 p103 q103; cases e103
              replace hx103_0 := (HB.out.cell (zCq w _ hx103_0)).trans hx103_0; have HR103_0 := zA hi103_0; have HC103_0 := zA hl103_0; clear hi103_0 hl103_0; replace p103 := eq_true p103; replace q103 := eq_true q103; go_wp2_with (first | ((with_reducible refine zJq (f := 87) rfl ?_); refine goesL_ (some 24) rfl rfl Try.func87 (by kernel_rfl) rfl #[.slice A103_0 (rd_L14 l0_1 x16_1).length c103_0, .int .i64 a1] rfl qG ?_; (with_reducible refine (rows_Find.calls k1 _ _ (rd_L14 l0_1 x16_1) a1 t104 false _ ?side1 ?side2 A12.out).mono ?_); (case side1 => exact qC (Kd.C_below HR103_0.out HB.out)); (case side2 => exact HC103_0.out); rintro e w' ⟨rfl, ⟨nd, rfl⟩⟩; refine ⟨_, rfl, ?_⟩)); go_roundg k1
              case measure => have := HK1.out; omega
              case rel => exact ⟨(x5_1), (wrap64 (x16_1 + 1)), (by first | rfl | (simp; done) | (simp [*]; done)), H', ⟨by have := HK1.out; omega⟩, ⟨by (with_reducible repeat (first | apply Kd.R_alloc | apply Kd.R_drewN | apply Kd.R_drew)); exact HO_5.out⟩, ⟨by exact BK101.out⟩, ⟨qB⟩⟩
            rw [if_neg c11] at H; exact absurd H (by simp)
          rw [if_neg c10] at H; exact absurd H (by simp)
        rw [if_neg c9] at H; have c9b0 : decide (x16_1 < (l0_1.length : Int)) = false := zGq c9; clear c9; obtain rfl := zKq H; go_wp2; go_ret; exact ⟨_, qE, by (with_reducible repeat (first | apply Kd.R_alloc | apply Kd.R_drewN | apply Kd.R_drew)); exact HO_5.out, qB⟩
  rw [if_neg c4] at H
  have c4b0 : (t102 == 0) = false := beq_eq_false_iff_ne.mpr c4
  have c4b1 : (t102 != 0) = true := bne_iff_ne.mpr c4
  obtain rfl := zKq H
  go_enter Try.func30, Try.ntmps30
  go_wp2_with (first | ((with_reducible refine gate_dst (N := 2) rfl ?_); refine box_event qr (N := 2) qr (cs := #[.slice A0_0 l0_0.length c0_0, .slice A0_1 l0_1.length c0_1]) (t := 51) qg ?_; intro gb101 hg w18 hbox hb; have n0_ := zA (zV qB hb); have n1_ := zA (hbox); have n2_ := zA ((qS : w.heap.size ≤ gb101)); have n3_ := zA ((qS : w.heap.size ≤ gb101)); clear HB; have HB := n0_; have BK101 := n1_; have GW101 := n2_; have GE101 := n3_; clear n0_ n1_ n2_ n3_ hb hbox hg; obtain ⟨_, _, _, _⟩ := qc2f BK101.out) | ((with_reducible refine zJq (f := 28) rfl ?_); refine goesL_ (some 11) rfl rfl Try.func28 (by kernel_rfl) rfl #[.agg #[.slice A0_0 l0_0.length c0_0, .slice A0_1 l0_1.length c0_1]] rfl qG ?_; (with_reducible refine (index_Check.calls k _ _ l0_0 _ _ l0_1 t102 _ ?side1 ?side2 ?side3 ?side4 A3.out).mono ?_); (case side1 => exact qC (Kd.C_below HR0_0.out HB.out)); (case side2 => exact HC0_0.out); (case side3 => exact qC (Kd.C_below HR0_1.out HB.out)); (case side4 => exact HC0_1.out); rintro e w20 ⟨rfl, hb⟩; refine ⟨_, rfl, ?_⟩; have n0_ := zA (qX BK101.out hb); have n1_ := zA (zV qB hb); clear BK101 HB; have BK101 := n0_; have HB := n1_; clear n0_ n1_; (try clear hb)))
  go_ret
  exact ⟨_, qE, qN, qB⟩
def index_Count.f (k : Nat) (l0_0 : List ByteArray) (l0_1 : List (List Int)) : Option (Int) := (index_Check.f k l0_0 l0_1).bind fun t102 => (if t102 = 0 then ((index_pairs.f k l0_0 l0_1).bind fun t103 => (some t103)) else (some 0))
theorem index_Count.mono : ∀ a0 a1 k, LeO (index_Count.f k a0 a1) (index_Count.f (k + 1) a0 a1) := by
  intro a0 a1 k
  unfold index_Count.f
  repeat' (with_reducible first | exact index_Check.mono _ _ _ | exact index_pairs.mono _ _ _ | exact LeO.refl _ | exact LeO.none _ | refine LeO.ite ?_ ?_ | refine LeO.bind ?_ (fun _ => ?_))
set_option maxHeartbeats 8000000 in
set_option maxRecDepth 100000 in
theorem index_Count.calls (k : Nat) (A0_0 : Option Addr) (c0_0 : Nat) (l0_0 : List ByteArray) (A0_1 : Option Addr) (c0_1 : Nat) (l0_1 : List (List Int)) (r : Int) (w : World) (hr0_0 : Kd.C Kd.string w A0_0 l0_0.length l0_0) (hc0_0 : l0_0.length ≤ c0_0) (hr0_1 : Kd.C (Kd.slice 3 (Kd.int .i64)) w A0_1 l0_1.length l0_1) (hc0_1 : l0_1.length ≤ c0_1) (h : index_Count.f k l0_0 l0_1 = some r) :
    Calls Try.prog 31 #[.agg #[.slice A0_0 l0_0.length c0_0, .slice A0_1 l0_1.length c0_1]] w fun e w' => e = .returned (.int .i64 r) ∧ Below w.heap.size w w' := by
  have hu51 := Try.underlying51
  have HR0_0 := zA hr0_0
  have HC0_0 := zA hc0_0
  clear hr0_0 hc0_0
  have HR0_1 := zA hr0_1
  have HC0_1 := zA hc0_1
  clear hr0_1 hc0_1
  have HB := zA (Below.refl w.heap.size w)
  have H : ((index_Check.f k l0_0 l0_1).bind fun t102 => (if t102 = 0 then ((index_pairs.f k l0_0 l0_1).bind fun t103 => (some t103)) else (some 0))) = some r := h
  clear h
  replace H := Option.bind_eq_some_iff.mp H
  obtain ⟨t102, A20, H⟩ := H
  try dsimp only at H
  have A2 := zA A20
  clear A20
  by_cases c3 : t102 = 0
  · rw [if_pos c3] at H
    have c3b0 : (t102 == 0) = true := beq_iff_eq.mpr c3; have c3b1 : (t102 != 0) = false := bne_eq_false_iff_eq.mpr c3; clear c3; replace H := Option.bind_eq_some_iff.mp H; obtain ⟨t103, A40, H⟩ := H; try dsimp only at H
    have A4 := zA A40; clear A40; obtain rfl := zKq H; go_enter Try.func31, Try.ntmps31; go_wp2_with (first | ((with_reducible refine gate_dst (N := 1) rfl ?_); refine box_event qr (N := 1) qr (cs := #[.slice A0_0 l0_0.length c0_0, .slice A0_1 l0_1.length c0_1]) (t := 51) qg ?_; intro gb101 hg w5 hbox hb; have n0_ := zA (zV qB hb); have n1_ := zA (hbox); have n2_ := zA ((qS : w.heap.size ≤ gb101)); have n3_ := zA ((qS : w.heap.size ≤ gb101)); clear HB; have HB := n0_; have BK101 := n1_; have GW101 := n2_; have GE101 := n3_; clear n0_ n1_ n2_ n3_ hb hbox hg; obtain ⟨_, _, _, _⟩ := qc2f BK101.out) | ((with_reducible refine zJq (f := 28) rfl ?_); refine goesL_ (some 4) rfl rfl Try.func28 (by kernel_rfl) rfl #[.agg #[.slice A0_0 l0_0.length c0_0, .slice A0_1 l0_1.length c0_1]] rfl qG ?_; (with_reducible refine (index_Check.calls k _ _ l0_0 _ _ l0_1 t102 _ ?side1 ?side2 ?side3 ?side4 A2.out).mono ?_); (case side1 => exact qC (Kd.C_below HR0_0.out HB.out)); (case side2 => exact HC0_0.out); (case side3 => exact qC (Kd.C_below HR0_1.out HB.out)); (case side4 => exact HC0_1.out); rintro e w7 ⟨rfl, hb⟩; refine ⟨_, rfl, ?_⟩; have n0_ := zA (qX BK101.out hb); have n1_ := zA (zV qB hb); clear BK101 HB; have BK101 := n0_; have HB := n1_; clear n0_ n1_; (try clear hb); obtain ⟨_, _, _, _⟩ := qc2f BK101.out) | ((with_reducible refine zJq (f := 81) rfl ?_); refine goesL_ (some 7) rfl rfl Try.func81 (by kernel_rfl) rfl #[.agg #[.slice A0_0 l0_0.length c0_0, .slice A0_1 l0_1.length c0_1]] rfl qG ?_; (with_reducible refine (index_pairs.calls k _ _ l0_0 _ _ l0_1 t103 _ ?side1 ?side2 ?side3 ?side4 A4.out).mono ?_); (case side1 => exact qC (Kd.C_below HR0_0.out HB.out)); (case side2 => exact HC0_0.out); (case side3 => exact qC (Kd.C_below HR0_1.out HB.out)); (case side4 => exact HC0_1.out); rintro e w9 ⟨rfl, hb⟩; refine ⟨_, rfl, ?_⟩; have n0_ := zA (qX BK101.out hb); have n1_ := zA (zV qB hb); clear BK101 HB; have BK101 := n0_; have HB := n1_; clear n0_ n1_; (try clear hb))); go_ret; exact ⟨qE, qB⟩
  rw [if_neg c3] at H
  have c3b0 : (t102 == 0) = false := beq_eq_false_iff_ne.mpr c3
  have c3b1 : (t102 != 0) = true := bne_iff_ne.mpr c3
  obtain rfl := zKq H
  go_enter Try.func31, Try.ntmps31
  go_wp2_with (first | ((with_reducible refine gate_dst (N := 1) rfl ?_); refine box_event qr (N := 1) qr (cs := #[.slice A0_0 l0_0.length c0_0, .slice A0_1 l0_1.length c0_1]) (t := 51) qg ?_; intro gb101 hg w10 hbox hb; have n0_ := zA (zV qB hb); have n1_ := zA (hbox); have n2_ := zA ((qS : w.heap.size ≤ gb101)); have n3_ := zA ((qS : w.heap.size ≤ gb101)); clear HB; have HB := n0_; have BK101 := n1_; have GW101 := n2_; have GE101 := n3_; clear n0_ n1_ n2_ n3_ hb hbox hg; obtain ⟨_, _, _, _⟩ := qc2f BK101.out) | ((with_reducible refine zJq (f := 28) rfl ?_); refine goesL_ (some 4) rfl rfl Try.func28 (by kernel_rfl) rfl #[.agg #[.slice A0_0 l0_0.length c0_0, .slice A0_1 l0_1.length c0_1]] rfl qG ?_; (with_reducible refine (index_Check.calls k _ _ l0_0 _ _ l0_1 t102 _ ?side1 ?side2 ?side3 ?side4 A2.out).mono ?_); (case side1 => exact qC (Kd.C_below HR0_0.out HB.out)); (case side2 => exact HC0_0.out); (case side3 => exact qC (Kd.C_below HR0_1.out HB.out)); (case side4 => exact HC0_1.out); rintro e w12 ⟨rfl, hb⟩; refine ⟨_, rfl, ?_⟩; have n0_ := zA (qX BK101.out hb); have n1_ := zA (zV qB hb); clear BK101 HB; have BK101 := n0_; have HB := n1_; clear n0_ n1_; (try clear hb)))
  go_ret
  exact ⟨qE, qB⟩
def backhaulref02_SameInts.l0 : Nat → List Int → List Int → Int → Option (Bool)
  | 0, _, _, _ => none
  | k + 1, x0, x1, x5 => if x5 < (x0.length : Int) then (if 0 ≤ x5 then (if x5 < (x1.length : Int) then (if (rd x0 x5) = (rd x1 x5) then (backhaulref02_SameInts.l0 k x0 x1 (wrap64 (x5 + 1))) else (some false)) else (none)) else (none)) else (some true)
def backhaulref02_SameInts.f (k : Nat) (l0 : List Int) (l1 : List Int) : Option (Bool) := if (l0.length : Int) = (l1.length : Int) then (backhaulref02_SameInts.l0 k l0 l1 0) else (some false)
set_option maxHeartbeats 8000000 in
set_option maxRecDepth 100000 in
theorem backhaulref02_SameInts.calls (k : Nat) (A0 : Option Addr) (c0 : Nat) (l0 : List Int) (A1 : Option Addr) (c1 : Nat) (l1 : List Int) (r : Bool) (w : World) (hr0 : Kd.C (Kd.int .i64) w A0 l0.length l0) (hc0 : l0.length ≤ c0) (hr1 : Kd.C (Kd.int .i64) w A1 l1.length l1) (hc1 : l1.length ≤ c1) (h : backhaulref02_SameInts.f k l0 l1 = some r) :
    Calls Try.prog 32 #[.slice A0 l0.length c0, .slice A1 l1.length c1] w fun e w' => e = .returned (.bool r) ∧ Drawn0 w w' := by
  have HR0 := zA hr0
  have HC0 := zA hc0
  clear hr0 hc0
  have HR1 := zA hr1
  have HC1 := zA hc1
  clear hr1 hc1
  have H : (if (l0.length : Int) = (l1.length : Int) then (backhaulref02_SameInts.l0 k l0 l1 0) else (some false)) = some r := h
  clear h
  by_cases c3 : (l0.length : Int) = (l1.length : Int)
  · rw [if_pos c3] at H
    have c3b0 : ((l0.length : Int) == (l1.length : Int)) = true := beq_iff_eq.mpr c3; have c3b1 : ((l0.length : Int) != (l1.length : Int)) = false := bne_eq_false_iff_eq.mpr c3; have c3b2 : (l0.length == l1.length) = true := by first | simpa using c3 | (simp at c3 ⊢; omega)
    clear c3; have H' := zA H; clear H; go_enter Try.func32, Try.ntmps32; go_wp2; repeat (go_quiet (fail); try go_wp2)
    go_loopg [5] k (fun kq v5 w' => ∃ (x5_1 : Int), v5 = .int .i64 x5_1 ∧ Aside0 (backhaulref02_SameInts.l0 kq l0 l1 x5_1 = some r) ∧ Aside0 (kq ≤ k) ∧ Drawn0 w w')
    case atStart => exact ⟨(0), (by first | rfl | (simp; done) | (simp [*]; done)), H', ⟨Nat.le_refl _⟩, by repeat (first | exact Drawn0.refl _ | apply Drawn0.step)⟩
    case round =>
      clear H'; try clear c1
      try clear p2
      try clear c3
      try clear c3b0
      try clear c3b1
      try clear c3b2
      obtain ⟨x5_1, rfl, HA, HK1, ⟨m1, rfl⟩⟩ := hrel; cases gk with
      | zero => exact absurd HA.out (by simp [backhaulref02_SameInts.l0])
      | succ k1 =>
        have H := HA.out; clear HA; simp only [backhaulref02_SameInts.l0] at H; by_cases c4 : x5_1 < (l0.length : Int)
        · rw [if_pos c4] at H
          have c4b0 : decide (x5_1 < (l0.length : Int)) = true := zFq c4; clear c4; by_cases c5 : 0 ≤ x5_1
          · rw [if_pos c5] at H
            have c5b0 : decide (0 ≤ x5_1) = true := zFq c5; clear c5; by_cases c6 : x5_1 < (l1.length : Int)
            · rw [if_pos c6] at H
              have c6b0 : decide (x5_1 < (l1.length : Int)) = true := zFq c6; clear c6; by_cases c7 : (rd l0 x5_1) = (rd l1 x5_1)
              · rw [if_pos c7] at H
                have c7b0 : ((rd l0 x5_1) == (rd l1 x5_1)) = true := beq_iff_eq.mpr c7; have c7b1 : ((rd l0 x5_1) != (rd l1 x5_1)) = false := bne_eq_false_iff_eq.mpr c7; clear c7; have H' := zA H; clear H; have p101 : 0 ≤ (x5_1 : Int) := of_decide_eq_true qA; have q101 : x5_1 < (l0.length : Int) := of_decide_eq_true qA; obtain ⟨ad101, e101, hx101_0⟩ := Kd.at_int HR0.out x5_1 p101 q101; cases e101
                replace p101 := eq_true p101; replace q101 := eq_true q101; have p102 : 0 ≤ (x5_1 : Int) := of_decide_eq_true qA; have q102 : x5_1 < (l1.length : Int) := of_decide_eq_true qA; obtain ⟨ad102, e102, hx102_0⟩ := Kd.at_int HR1.out x5_1 p102 q102; cases e102
                replace p102 := eq_true p102; replace q102 := eq_true q102; go_wp2; repeat (go_quiet (fail); try go_wp2)
                go_roundg k1
                case measure => have := HK1.out; omega
                case rel => exact ⟨(wrap64 (x5_1 + 1)), (by first | rfl | (simp; done) | (simp [*]; done)), H', ⟨by have := HK1.out; omega⟩, by repeat (first | exact Drawn0.refl _ | apply Drawn0.step)⟩
              rw [if_neg c7] at H; have c7b0 : ((rd l0 x5_1) == (rd l1 x5_1)) = false := beq_eq_false_iff_ne.mpr c7; have c7b1 : ((rd l0 x5_1) != (rd l1 x5_1)) = true := bne_iff_ne.mpr c7; obtain rfl := zKq H; have p101 : 0 ≤ (x5_1 : Int) := of_decide_eq_true qA; have q101 : x5_1 < (l0.length : Int) := of_decide_eq_true qA; obtain ⟨ad101, e101, hx101_0⟩ := Kd.at_int HR0.out x5_1 p101 q101; cases e101
              replace p101 := eq_true p101; replace q101 := eq_true q101; have p102 : 0 ≤ (x5_1 : Int) := of_decide_eq_true qA; have q102 : x5_1 < (l1.length : Int) := of_decide_eq_true qA; obtain ⟨ad102, e102, hx102_0⟩ := Kd.at_int HR1.out x5_1 p102 q102; cases e102
              replace p102 := eq_true p102; replace q102 := eq_true q102; go_wp2; repeat (go_quiet (fail); try go_wp2)
              go_ret; exact ⟨by first | rfl | (simp; done) | (simp [*]; done), by repeat (first | exact Drawn0.refl _ | apply Drawn0.step)⟩
            rw [if_neg c6] at H; exact absurd H (by simp)
          rw [if_neg c5] at H; exact absurd H (by simp)
        rw [if_neg c4] at H; have c4b0 : decide (x5_1 < (l0.length : Int)) = false := zGq c4; clear c4; obtain rfl := zKq H; go_wp2; repeat (go_quiet (fail); try go_wp2)
        go_ret; exact ⟨by first | rfl | (simp; done) | (simp [*]; done), by repeat (first | exact Drawn0.refl _ | apply Drawn0.step)⟩
  rw [if_neg c3] at H
  have c3b0 : ((l0.length : Int) == (l1.length : Int)) = false := beq_eq_false_iff_ne.mpr c3
  have c3b1 : ((l0.length : Int) != (l1.length : Int)) = true := bne_iff_ne.mpr c3
  have c3b2 : (l0.length == l1.length) = false := by first | simpa using c3 | (simp at c3 ⊢; omega)
  obtain rfl := zKq H
  go_enter Try.func32, Try.ntmps32
  go_wp2
  repeat (go_quiet (fail); try go_wp2)
  go_ret
  exact ⟨by first | rfl | (simp; done) | (simp [*]; done), by repeat (first | exact Drawn0.refl _ | apply Drawn0.step)⟩
def backhaulref01_SameTexts.l0 : Nat → List ByteArray → List ByteArray → Int → Option (Bool)
  | 0, _, _, _ => none
  | k + 1, x0, x1, x5 => if x5 < (x0.length : Int) then (if 0 ≤ x5 then (if x5 < (x1.length : Int) then (if (rdOf ByteArray.empty x0 x5).toList = (rdOf ByteArray.empty x1 x5).toList then (backhaulref01_SameTexts.l0 k x0 x1 (wrap64 (x5 + 1))) else (some false)) else (none)) else (none)) else (some true)
def backhaulref01_SameTexts.f (k : Nat) (l0 : List ByteArray) (l1 : List ByteArray) : Option (Bool) := if (l0.length : Int) = (l1.length : Int) then (backhaulref01_SameTexts.l0 k l0 l1 0) else (some false)
set_option maxHeartbeats 8000000 in
set_option maxRecDepth 100000 in
theorem backhaulref01_SameTexts.calls (k : Nat) (A0 : Option Addr) (c0 : Nat) (l0 : List ByteArray) (A1 : Option Addr) (c1 : Nat) (l1 : List ByteArray) (r : Bool) (w : World) (hr0 : Kd.C Kd.string w A0 l0.length l0) (hc0 : l0.length ≤ c0) (hr1 : Kd.C Kd.string w A1 l1.length l1) (hc1 : l1.length ≤ c1) (h : backhaulref01_SameTexts.f k l0 l1 = some r) :
    Calls Try.prog 34 #[.slice A0 l0.length c0, .slice A1 l1.length c1] w fun e w' => e = .returned (.bool r) ∧ Drawn0 w w' := by
  have HR0 := zA hr0
  have HC0 := zA hc0
  clear hr0 hc0
  have HR1 := zA hr1
  have HC1 := zA hc1
  clear hr1 hc1
  have H : (if (l0.length : Int) = (l1.length : Int) then (backhaulref01_SameTexts.l0 k l0 l1 0) else (some false)) = some r := h
  clear h
  by_cases c3 : (l0.length : Int) = (l1.length : Int)
  · rw [if_pos c3] at H
    have c3b0 : ((l0.length : Int) == (l1.length : Int)) = true := beq_iff_eq.mpr c3; have c3b1 : ((l0.length : Int) != (l1.length : Int)) = false := bne_eq_false_iff_eq.mpr c3; have c3b2 : (l0.length == l1.length) = true := by first | simpa using c3 | (simp at c3 ⊢; omega)
    clear c3; have H' := zA H; clear H; go_enter Try.func34, Try.ntmps34; go_wp2; repeat (go_quiet (fail); try go_wp2)
    go_loopg [5] k (fun kq v5 w' => ∃ (x5_1 : Int), v5 = .int .i64 x5_1 ∧ Aside0 (backhaulref01_SameTexts.l0 kq l0 l1 x5_1 = some r) ∧ Aside0 (kq ≤ k) ∧ Drawn0 w w')
    case atStart => exact ⟨(0), (by first | rfl | (simp; done) | (simp [*]; done)), H', ⟨Nat.le_refl _⟩, by repeat (first | exact Drawn0.refl _ | apply Drawn0.step)⟩
    case round =>
      clear H'; try clear c1
      try clear p2
      try clear c3
      try clear c3b0
      try clear c3b1
      try clear c3b2
      obtain ⟨x5_1, rfl, HA, HK1, ⟨m1, rfl⟩⟩ := hrel; cases gk with
      | zero => exact absurd HA.out (by simp [backhaulref01_SameTexts.l0])
      | succ k1 =>
        have H := HA.out; clear HA; simp only [backhaulref01_SameTexts.l0] at H; by_cases c4 : x5_1 < (l0.length : Int)
        · rw [if_pos c4] at H
          have c4b0 : decide (x5_1 < (l0.length : Int)) = true := zFq c4; clear c4; by_cases c5 : 0 ≤ x5_1
          · rw [if_pos c5] at H
            have c5b0 : decide (0 ≤ x5_1) = true := zFq c5; clear c5; by_cases c6 : x5_1 < (l1.length : Int)
            · rw [if_pos c6] at H
              have c6b0 : decide (x5_1 < (l1.length : Int)) = true := zFq c6; clear c6; by_cases c7 : (rdOf ByteArray.empty l0 x5_1).toList = (rdOf ByteArray.empty l1 x5_1).toList
              · rw [if_pos c7] at H
                have c7b0 : ((rdOf ByteArray.empty l0 x5_1).toList == (rdOf ByteArray.empty l1 x5_1).toList) = true := beq_iff_eq.mpr c7; have c7b1 : ((rdOf ByteArray.empty l0 x5_1).toList != (rdOf ByteArray.empty l1 x5_1).toList) = false := bne_eq_false_iff_eq.mpr c7; clear c7; have H' := zA H; clear H; have p101 : 0 ≤ (x5_1 : Int) := of_decide_eq_true qA; have q101 : x5_1 < (l0.length : Int) := of_decide_eq_true qA; obtain ⟨ad101, e101, hx101_0⟩ := Kd.at_string HR0.out x5_1 p101 q101; cases e101
                replace p101 := eq_true p101; replace q101 := eq_true q101; have p102 : 0 ≤ (x5_1 : Int) := of_decide_eq_true qA; have q102 : x5_1 < (l1.length : Int) := of_decide_eq_true qA; obtain ⟨ad102, e102, hx102_0⟩ := Kd.at_string HR1.out x5_1 p102 q102; cases e102
                replace p102 := eq_true p102; replace q102 := eq_true q102; go_wp2; repeat (go_quiet (fail); try go_wp2)
                go_roundg k1
                case measure => have := HK1.out; omega
                case rel => exact ⟨(wrap64 (x5_1 + 1)), (by first | rfl | (simp; done) | (simp [*]; done)), H', ⟨by have := HK1.out; omega⟩, by repeat (first | exact Drawn0.refl _ | apply Drawn0.step)⟩
              rw [if_neg c7] at H; have c7b0 : ((rdOf ByteArray.empty l0 x5_1).toList == (rdOf ByteArray.empty l1 x5_1).toList) = false := beq_eq_false_iff_ne.mpr c7; have c7b1 : ((rdOf ByteArray.empty l0 x5_1).toList != (rdOf ByteArray.empty l1 x5_1).toList) = true := bne_iff_ne.mpr c7; obtain rfl := zKq H; have p101 : 0 ≤ (x5_1 : Int) := of_decide_eq_true qA; have q101 : x5_1 < (l0.length : Int) := of_decide_eq_true qA; obtain ⟨ad101, e101, hx101_0⟩ := Kd.at_string HR0.out x5_1 p101 q101; cases e101
              replace p101 := eq_true p101; replace q101 := eq_true q101; have p102 : 0 ≤ (x5_1 : Int) := of_decide_eq_true qA; have q102 : x5_1 < (l1.length : Int) := of_decide_eq_true qA; obtain ⟨ad102, e102, hx102_0⟩ := Kd.at_string HR1.out x5_1 p102 q102; cases e102
              replace p102 := eq_true p102; replace q102 := eq_true q102; go_wp2; repeat (go_quiet (fail); try go_wp2)
              go_ret; exact ⟨by first | rfl | (simp; done) | (simp [*]; done), by repeat (first | exact Drawn0.refl _ | apply Drawn0.step)⟩
            rw [if_neg c6] at H; exact absurd H (by simp)
          rw [if_neg c5] at H; exact absurd H (by simp)
        rw [if_neg c4] at H; have c4b0 : decide (x5_1 < (l0.length : Int)) = false := zGq c4; clear c4; obtain rfl := zKq H; go_wp2; repeat (go_quiet (fail); try go_wp2)
        go_ret; exact ⟨by first | rfl | (simp; done) | (simp [*]; done), by repeat (first | exact Drawn0.refl _ | apply Drawn0.step)⟩
  rw [if_neg c3] at H
  have c3b0 : ((l0.length : Int) == (l1.length : Int)) = false := beq_eq_false_iff_ne.mpr c3
  have c3b1 : ((l0.length : Int) != (l1.length : Int)) = true := bne_iff_ne.mpr c3
  have c3b2 : (l0.length == l1.length) = false := by first | simpa using c3 | (simp at c3 ⊢; omega)
  obtain rfl := zKq H
  go_enter Try.func34, Try.ntmps34
  go_wp2
  repeat (go_quiet (fail); try go_wp2)
  go_ret
  exact ⟨by first | rfl | (simp; done) | (simp [*]; done), by repeat (first | exact Drawn0.refl _ | apply Drawn0.step)⟩
def rows_With_int.f (l0 : List Int) (a1 : Int) (a2 : Int) : Option (List Int × Int) := if a1 < 0 then some ([], 2) else if a1 > (l0.length : Int) then some ([], 2) else if l0.length + 1 < 17592186044416 then some (l0.take a1.toNat ++ a2 :: l0.drop (a1.toNat), 0) else none
set_option maxHeartbeats 1000000 in
theorem rows_With_int.good (A0 : Option Addr) (c0 : Nat) (l0 : List Int) (n : Nat) (a2 : Int) (w : World) (hr0 : Kd.C (Kd.int .i64) w A0 l0.length l0) (hc0 : l0.length ≤ c0) (hn : n ≤ l0.length) (h3 : l0.length + 1 < 17592186044416) :
    Calls Try.prog 135 #[.slice A0 l0.length c0, .int .i64 (n : Int), .int .i64 a2] w fun e w' => ∃ v0_ : Value, e = .returned (.tuple #[v0_, .int .i64 0]) ∧ Kd.R (Kd.int .i64) 3 w' w.heap.size (fun _ => True) v0_ (l0.take n ++ a2 :: l0.drop (n)) ∧ Below w.heap.size w w' := by
  obtain ⟨i0, hi, hzz⟩ := Option.map_eq_some_iff.1 info3
  simp only [zOq] at hzz
  have k1 := cut_full (P := Try.prog) 44 3 .i64 .i64 Try.underlying44 hi A0 l0.length c0 n (by omega) hc0
  have k2 := cut_from (P := Try.prog) 44 3 .i64 Try.underlying44 hi 1 hzz.2.1 A0 l0.length c0 ((n : Int)) (n) (by omega) hn hc0
  have t1 : decide ((n : Int) < 0) = false := zGq (by omega)
  have t2 : decide (l0.length < n) = false := zGq (by omega)
  have HT : Aside0 (Kd.C (Kd.int .i64) w A0 n (l0.take n)) := ⟨by have := Kd.C_take hr0 (show n ≤ l0.length by omega); rwa [zQ, Nat.min_eq_left (show n ≤ l0.length by omega)] at this⟩
  obtain ⟨A2, hA2⟩ : ∃ A2, A2 = (if c0 = n then A0 else A0.map (·.add ((n) * 1))) := ⟨_, rfl⟩
  have HD : Aside0 (Kd.C (Kd.int .i64) w A2 (l0.length - (n)) (l0.drop (n))) := ⟨by have := Kd.C_drop hr0 hn hc0; rw [zP] at this; rw [hA2]; exact this⟩
  rw [← hA2] at k2
  clear hA2
  skip
  have HC0 := zA hc0
  have HN := zA hn
  have H3 := zA h3
  have HI := zA info3
  clear hr0 hc0 hn h3
  go_enter Try.func135, Try.ntmps135
  go_wp2
  go_region_law (first
    | (refine step_append_full (Kd.int .i64) (flat_int .i64) rfl (.tmp 19) (.tmp 21) 44 3 _ _ rfl Try.underlying44 HI.out rfl (by decide) (by decide) A0 n (l0.take n) rfl ?c1 ⟨w.heap.size, 0, none⟩ 1 1 [a2] rfl ?c2 (by decide) ?c3 ?c4; (case c1 => exact Kd.C_below HT.out (below_drew (zD (Below.refl _ _) _))); (case c2 => exact Kd.C_below (C_lit1 (d := (Kd.int .i64)) rfl) (below_drew (Below.refl _ _))); (case c3 => simp only [zQ, List.length_singleton]; have := H3.out; have := HN.out; omega); intro v1 w1 ho1 hb1; have HO1 := zA (Kd.R_lower ho1 (base' := w.heap.size) (by simp)); have HB1 := zA (below_then (below_drew (zD (Below.refl w.heap.size w) (.cells ([.int .i64 a2] : List Value).toArray 3))) (by simp) hb1); clear ho1 hb1)
    | (refine Kd.R_append_rows_step (Kd.int .i64) (Rr := ((Kd.int .i64)).K w1) (w0 := w) w.heap.size (by simp [Region.wanted]) (.tmp 22) (.tmp 25) 44 3 _ _ rfl Try.underlying44 HI.out rfl (by decide) (by decide) v1 (l0.take n ++ [a2]) (l0.drop (n)) _ (l0.length - (n)) (c0 - (n)) (fun _ => True) (fun k => some k ≠ v1.ownBlock) rfl rfl HO1.out ?d1 ?d2 (fun _ h => ⟨trivial, h⟩) (fun _ _ => trivial) HB1.out (HB1.out.size) ?d3 ?d4; (case d1 => exact Kd.C_below HD.out HB1.out); (case d2 => exact fun x cs h => (flat_int .i64) _ _ _ _ _ h); (case d3 => simp only [zQ, List.length_append, List.length_singleton]; have := H3.out; have := HN.out; omega); intro v2 w2 ho2 hb2 hg2 ha2; have HO2 := zA ho2; have HB2 := zA hb2; clear ho2 hb2 hg2 ha2))
  go_wp2
  go_ret2
  exact ⟨v2, by first | rfl | (simp; rfl), by simpa using HO2.out, HB2.out⟩
set_option maxHeartbeats 1000000 in
theorem rows_With_int.calls (A0 : Option Addr) (c0 : Nat) (l0 : List Int) (a1 : Int) (a2 : Int) (r1 : List Int) (r2 : Int) (w : World) (hr0 : Kd.C (Kd.int .i64) w A0 l0.length l0) (hc0 : l0.length ≤ c0) (h : rows_With_int.f l0 a1 a2 = some (r1, r2)) :
    Calls Try.prog 135 #[.slice A0 l0.length c0, .int .i64 a1, .int .i64 a2] w fun e w' => ∃ v0_ : Value, e = .returned (.tuple #[v0_, .int .i64 r2]) ∧ Kd.R (Kd.int .i64) 3 w' w.heap.size (fun _ => True) v0_ r1 ∧ Below w.heap.size w w' := by
  unfold rows_With_int.f at h
  by_cases h1 : a1 < 0
  · rw [if_pos h1] at h
    simp only [zNq, zOq] at h; obtain ⟨rfl, rfl⟩ := h; have h1' : decide (a1 < 0) = true := zFq h1; clear h1 hr0; go_enter Try.func135, Try.ntmps135; go_wp2; go_ret2; exact ⟨_, rfl, Kd.R_nil _ _ _ _ _, Below.refl _ _⟩
  rw [if_neg h1] at h
  by_cases h2 : a1 > (l0.length : Int)
  · rw [if_pos h2] at h
    simp only [zNq, zOq] at h; obtain ⟨rfl, rfl⟩ := h; have h1' : decide (a1 < 0) = false := zGq h1; have h2' : decide ((l0.length : Int) < a1) = true := zFq h2; clear h1 hr0; go_enter Try.func135, Try.ntmps135; go_wp2; go_ret2; exact ⟨_, rfl, Kd.R_nil _ _ _ _ _, Below.refl _ _⟩
  rw [if_neg h2] at h
  by_cases h3 : l0.length + 1 < 17592186044416
  · rw [if_pos h3] at h
    simp only [zNq, zOq] at h; obtain ⟨rfl, rfl⟩ := h; obtain ⟨n, rfl⟩ := Int.eq_ofNat_of_zero_le (show 0 ≤ a1 by omega); simp only [Int.toNat_natCast]; exact rows_With_int.good A0 c0 l0 n a2 w hr0 hc0 (by omega) h3
  rw [if_neg h3] at h; cases h
end Go.Proofs.Ytdpcgigjlcpofaa.F
