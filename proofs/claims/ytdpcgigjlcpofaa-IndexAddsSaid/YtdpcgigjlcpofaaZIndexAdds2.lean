-- merged and pruned by prune.py (the session's own program); its words go back to the kit's print
import Derived.Test.YtdpcgigjlcpofaaProg
import Derived.Below
import Derived.Deep.Draws
import Derived.Deep.AppendLies
import Derived.Maps.AppendAt
import Derived.OwnWalk
import Derived.Laws.BytesArg
import Derived.Laws.MakeOwn
import Derived.Laws.OwnMore
import Derived.Deep.OwnRows
import Derived.Tactics
import Derived.Lib.ConvBytes
import Derived.Laws.Slices
import Derived.WalkKit
import Derived.KernelRfl
import Derived.RowKit3
import Derived.Deep.LoopGhost
import Derived.Deep.QuietTactic
import Derived.BigQuiet
import Derived.WideLaws
import Derived.Deep.DeepCutAuto
import Derived.Deep.CutBlock
import Derived.Deep.RegionHeld3
import Derived.Laws.Rows
import Derived.Lib.AppendStr
import Derived.ArgAppend
import Derived.Laws.IdiomCopy
import Derived.OrdersHeld
import Derived.Laws.BitsLemmas
import Derived.RowKit
import Derived.Laws.StructEq
import Derived.Deep.RegionLawGrows
import Derived.Lib.SliceRun
import Derived.Laws.CopyRow
import Derived.Laws.CopyOwn
import Derived.Shelf.Spec.SlicesInsertGrow
import Derived.Lib.OthersKept
import Derived.Lib.RuneCount
import Derived.Laws.Cover4
import Derived.Outline
import Derived.Shelf.Strings.Builder1
import Derived.Shelf.Strings.BuilderF
import Derived.Shelf.Strings.BuilderK
import Derived.Shelf.Utf8.RuneCount
import Derived.Shelf.Strings.Prefix
import Derived.Ground.Names2Prog
import Derived.Shelf.Slices.ReverseS
import Derived.Shelf.Slices.Clone
import Derived.Shelf.Slices.SearchI
import Derived.Shelf.Slices.Delete
import Derived.Shelf.Slices.Cells
import Derived.Shelf.Slices.Empties
import Derived.Ground.SlgnProg
import Derived.Shelf.SlicesE.Clone
import Derived.Test.YtdpcgigjlcpofaaZIndexAdds1
namespace Go.Proofs.Ytdpcgigjlcpofaa.F
open Go.RowKit Go.Proofs.YtdpcgigjlcpofaaX Go.Proofs.YtdpcgigjlcpofaaW.PrintWords Go.Proofs.YtdpcgigjlcpofaaW.PrintLast Go.Proofs.YtdpcgigjlcpofaaW.PrintMore
attribute [local go_sem] max2_int min2_int max_two min_two max_three min_three max_four min_four   
attribute [local go_sem high] str_geq str_leq str_gtr
set_option linter.unusedVariables false
set_option linter.unusedSimpArgs false
def slices_Clone_string_string.f (l0 : List ByteArray) : Option (List ByteArray) := if l0.length < 8796093022208 then some l0 else none
set_option maxHeartbeats 1000000 in
theorem slices_Clone_string_string.calls (A0 : Option Addr) (c0 : Nat) (l0 : List ByteArray) (r : List ByteArray) (w : World) (hr0 : Kd.C Kd.string w A0 l0.length l0) (hc0 : l0.length ≤ c0) (h : slices_Clone_string_string.f l0 = some r) :
    Calls Try.prog 136 #[.slice A0 l0.length c0] w fun e w' => ∃ v0_ : Value, e = .returned (v0_) ∧ Kd.R Kd.string 9 w' w.heap.size (fun _ => True) v0_ r ∧ Below w.heap.size w w' := by
  unfold slices_Clone_string_string.f at h
  by_cases h3 : l0.length < 8796093022208
  · rw [if_pos h3] at h
    simp only [zNq] at h; subst h; have hinf := info9; have hn := fun (W : World) => Lib.run_eql_slice_nil (P := Try.prog) W 46 9 A0 l0.length c0 0 0 Try.underlying46
    have HR0 := zA hr0; have HC0 := zA hc0; have H3 := zA h3; have HI := zA hinf; clear hr0 hc0 h3 hinf; cases A0 with
    | none =>
      have h0 : l0 = [] := by
        rcases Nat.eq_zero_or_pos l0.length with h0 | h0
        · exact List.eq_nil_of_length_eq_zero h0
        obtain ⟨ad, h, _⟩ := HR0.out.2.2 h0; cases h
      have H0 := zA h0; clear h0; go_enter Try.func136, Try.ntmps136; go_wp2; go_ret; exact ⟨_, rfl, by rw [H0.out]; exact Kd.R_nil _ _ _ _ _, by first | exact Below.refl _ _ | exact zB (Below.refl _ _) _⟩
    | some ad =>
      go_enter Try.func136, Try.ntmps136; go_wp2_with (first
        | (at_builtin; refine Kd.R_append_rows Kd.string (Rr := (Kd.string).K w) (w0 := w) w.heap.size rfl (.tmp 5) (.tmp 6) 46 9 _ _ rfl Try.underlying46 HI.out rfl (by decide) (by decide) (.slice (some ⟨w.heap.size, 0, none⟩) 0 0) [] l0 (some ad) l0.length c0 (fun _ => True) (fun k => some k ≠ some w.heap.size) rfl rfl ?d0 ?d1 ?d2 ?d5 (fun _ _ => trivial) ?d6 ?d7 ?d3 ?d4; (case d0 => exact R_empty_lit Kd.string 9 w); (case d1 => exact ReadsRow.imp_ HR0.out (zD (Below.refl _ _) _) (fun _ _ h => h)); (case d2 => exact fun x cs h => flat_string _ _ _ _ _ ((Kd.string).K_below (zD (Below.refl _ _) _) h)); (case d5 => exact fun k hk => ⟨trivial, hk⟩); (case d6 => exact zD (Below.refl _ _) _); (case d7 => simp); (case d3 => simp only [List.length_nil]; have := H3.out; omega); intro v2 w2 ho2 hb2 hg2 ha2; have HO2 := zA ho2; have HB2 := zA hb2; clear ho2 hb2 hg2 ha2))
      go_ret; exact ⟨v2, by first | rfl | (simp; rfl), by simpa using HO2.out, HB2.out⟩
  rw [if_neg h3] at h; cases h
def slices_Clone_int_int_137.f (l0 : List (List Int)) : Option (List (List Int)) := if l0.length < 5864062014805 then some l0 else none
set_option maxHeartbeats 1000000 in
theorem slices_Clone_int_int_137.calls (P0_ : Nat → Prop) (A0 : Option Addr) (c0 : Nat) (l0 : List (List Int)) (r : List (List Int)) (w : World) (hs0 : Kd.V (Kd.slice 3 (Kd.int .i64)) 44 w w.heap.size (fun k_ => P0_ k_) (.slice A0 l0.length c0) l0) (h : slices_Clone_int_int_137.f l0 = some r) :
    Calls Try.prog 137 #[.slice A0 l0.length c0] w fun e w' => ∃ v0_ : Value, e = .returned (v0_) ∧ Kd.N (Kd.slice 3 (Kd.int .i64)) 44 w' w.heap.size (fun k_ => (P0_ k_ ∨ w.heap.size ≤ k_)) v0_ r ∧ Below w.heap.size w w' := by
  unfold slices_Clone_int_int_137.f at h
  by_cases h3 : l0.length < 5864062014805
  · rw [if_pos h3] at h
    simp only [zNq] at h; subst h; have hinf := info44; have hn := fun (W : World) => Lib.run_eql_slice_nil (P := Try.prog) W 49 44 A0 l0.length c0 0 0 Try.underlying49
    have hv := Kd.V_reads' hs0; have HR0 := zA (Kd.F_bound (Kd.V_F hs0)); have H3 := zA h3; have HI := zA hinf; have HE : Aside0 (Kd.N (Kd.slice 3 (Kd.int .i64)) 44 (w.alloc (.cells #[] 44)) w.heap.size (fun k_ => (P0_ k_ ∨ w.heap.size ≤ k_)) (.slice (some ⟨w.heap.size, 0, none⟩) 0 0) []) := ⟨⟨fun k hk => .inr (Nat.le_of_eq (by simpa [Value.ownBlock] using hk)), [], rfl, Kd.raw_tight (R_empty_lit (Kd.raw ((Kd.slice 3 (Kd.int .i64))).sz) 44 w), fun j x c hx => by simp at hx⟩⟩
    have h0 : A0 = none → l0 = [] := fun hA => by
      rcases Nat.eq_zero_or_pos l0.length with h0 | h0
      · exact List.eq_nil_of_length_eq_zero h0
      obtain ⟨ad, h, _⟩ := hv.2.2.2.2 h0; rw [hA] at h; cases h
    have H0 := zA h0; clear hs0 h3 hinf hv h0; cases A0 with
    | none =>
      have H00 := zA (H0.out rfl); clear H0; go_enter Try.func137, Try.ntmps137; go_wp2; go_ret; exact ⟨_, rfl, by rw [H00.out]; exact Kd.N_nil _ _ _ _ _, by first | exact Below.refl _ _ | exact zB (Below.refl _ _) _⟩
    | some ad =>
      go_enter Try.func137, Try.ntmps137; go_wp2_with (first
        | (at_builtin; refine Kd.N_append_rows (Kd.slice 3 (Kd.int .i64)) (w0 := w) w.heap.size rfl (.tmp 5) (.tmp 6) 49 44 _ _ rfl Try.underlying49 HI.out rfl (by decide) (by decide) (.slice (some ⟨w.heap.size, 0, none⟩) 0 0) [] l0 (some ad) l0.length c0 (fun k_ => (P0_ k_ ∨ w.heap.size ≤ k_)) (fun k_ => P0_ k_ ∧ k_ < w.heap.size) rfl rfl ?d0 ?d1 ?d2 ?d5 ?d6 ?d7 ?d3 ?d4; (case d0 => exact HE.out); (case d1 => exact Kd.F_alloc HR0.out _); (case d2 => exact fun k hk => ⟨.inl hk.1, fun he => absurd (show k = w.heap.size by simpa [Value.ownBlock] using he) (zLq hk.2)⟩); (case d5 => exact fun k hk => .inr (Nat.le_trans (Nat.le_succ _) (by simpa using hk))); (case d6 => exact zD (Below.refl _ _) _); (case d7 => simp); (case d3 => simp only [List.length_nil]; have := H3.out; omega); intro v2 w2 ho2 hb2 hg2 ha2; have HO2 := zA ho2; have HB2 := zA hb2; clear ho2 hb2 hg2 ha2))
      go_ret; exact ⟨v2, by first | rfl | (simp; rfl), by simpa using HO2.out, HB2.out⟩
  rw [if_neg h3] at h; cases h
end Go.Proofs.Ytdpcgigjlcpofaa.F
set_option linter.unusedVariables false
set_option linter.unusedSimpArgs false
namespace Go.Proofs.YtdpcgigjlcpofaaX
open Go.RowKit Go.Proofs.YtdpcgigjlcpofaaW.PrintWords Go.Proofs.YtdpcgigjlcpofaaW.PrintLast Go.Proofs.YtdpcgigjlcpofaaW.PrintMore
theorem run_copy_sized {P : Program} (w : World) (dT sT ty elem : TypeId) (sz : Nat) (g o dLen dCap : Nat) (a : Addr) (sLen sCap : Nat) (cur : Array Value) (t : TypeId) (cs : List Value)
    (hu : P.underlying dT = some (.slice elem)) (hs : (P.info? elem).map (·.size) = some sz)
    (hg : w.heap[g]? = some (.cells cur t (0, 0))) (hn : cs.length = Nat.min sLen dLen * sz)
    (hsrc : ∀ j v, cs[j]? = some v → w.cell? (a.add j) = some v) (hfit : o + cs.length ≤ cur.size) (h1 : ∀ v ∈ cs, v.oneCell' = true) :
    (Builtin.copy_ #[dT, sT] ty #[.slice (some ⟨g, o, none⟩) dLen dCap, .slice (some a) sLen sCap]).run P w =
      .ok (goInt (Nat.min sLen dLen)) (w.setRow g (cur.toList.take o ++ cs ++ cur.toList.drop (o + cs.length)).toArray) := by
  have hl := run_loadCells_list (P := P) w a cs hsrc
  have hst := run_storeCells_at P g o t cs 0 cur w hg (by simpa using hfit) h1
  cases hq : P.info? elem with
  | none => simp [hq] at hs
  | some i =>
    have hi : i.size = sz := by simpa [hq] using hs
    rw [hn] at hl
    simp [Builtin.copy_, run_underlying hu, Builtin.lenOf, Builtin.firstCells, sizeOf, typeInfo, hq, hi, hl, hst]
abbrev o1 : Bool := true
abbrev o0 : Bool := false
end Go.Proofs.YtdpcgigjlcpofaaX
set_option linter.unusedVariables false
set_option linter.unusedSimpArgs false
namespace Go.Proofs.YtdpcgigjlcpofaaX
open Go.RowKit Go.Proofs.YtdpcgigjlcpofaaW.PrintWords Go.Proofs.YtdpcgigjlcpofaaW.PrintLast Go.Proofs.YtdpcgigjlcpofaaW.PrintMore
def ones (cs : List Value) : List (List Value) := cs.map fun u => [u]
theorem ones_len (cs : List Value) : (ones cs).length = cs.length := by simp [ones]
theorem ones_get {cs : List Value} {j : Nat} {c : List Value} (h : (ones cs)[j]? = some c) : ∃ u, cs[j]? = some u ∧ c = [u] := by
  unfold ones at h
  rw [List.getElem?_map, Option.map_eq_some_iff] at h
  obtain ⟨u, h1, h2⟩ := h
  exact ⟨u, h1, h2.symm⟩
theorem take_one {cs : List Value} {j : Nat} (h : j < cs.length) : (cs.drop (j * 1)).take 1 = [cs[j]] := by
  rw [Nat.mul_one, List.drop_eq_getElem_cons h]
  rfl
section
variable {e base : Nat} {ok : Nat → Prop} {w : World} {v : Value} {cs : List Value} {rows : List (List Value)}
theorem raw_close (h : w.ownsRow base e 1 v cs.length cs) (h1 : ∀ u ∈ cs, u.oneCell' = true) (hok : ∀ k, v.ownBlock = some k → ok k) : (Kd.raw 1).R e w base ok v (ones cs) := by
  refine ⟨hok, cs, by rw [ones_len]; exact h, by rw [ones_len]; show cs.length = cs.length * 1; omega, fun j p hj => ?_⟩
  obtain ⟨u, hu, rfl⟩ := ones_get hj
  obtain ⟨hjl, rfl⟩ := List.getElem?_eq_some_iff.1 hu
  have e1 : (cs.drop (j * (Kd.raw 1).sz)).take (Kd.raw 1).sz = [cs[j]] := take_one hjl
  rw [e1]
  exact ⟨rfl, rfl, fun x hx => by rw [List.mem_singleton.1 hx]; exact h1 _ (List.getElem_mem hjl)⟩
theorem raw_open (h : (Kd.raw 1).R e w base ok v rows) : ∃ cs, rows = ones cs ∧ w.ownsRow base e 1 v cs.length cs ∧ ∀ u ∈ cs, u.oneCell' = true := by
  obtain ⟨_, inner, ho, hl, hr⟩ := h
  have hil : inner.length = rows.length := by rw [hl]; show rows.length * 1 = rows.length; omega
  have hrow : ∀ j (hj : j < rows.length) (hi : j < inner.length), rows[j] = [inner[j]] ∧ inner[j].oneCell' = true := fun j hj hi => by
    obtain ⟨h1, h2, h3⟩ := hr j _ (List.getElem?_eq_getElem hj)
    have h4 : (inner.drop (j * (Kd.raw 1).sz)).take (Kd.raw 1).sz = [inner[j]] := take_one hi
    rw [h4] at h1 h3
    exact ⟨h1.symm, h3 _ (List.mem_singleton.2 rfl)⟩
  refine ⟨inner, List.ext_getElem (by rw [ones_len, hil]) fun j h1 h2 => ?_, by rw [hil]; exact ho, fun u hu => ?_⟩
  · rw [(hrow j h1 (by omega)).1]; simp [ones]
  obtain ⟨j, hj, rfl⟩ := List.mem_iff_getElem.1 hu
  exact (hrow j (by omega) hj).2
theorem own_at {n cap g : Nat} (h : w.ownsRow base e 1 v n cs) (hn : 0 < n) : ∃ g cap cur, v = .slice (some ⟨g, 0, none⟩) n cap ∧ base ≤ g ∧ w.heap[g]? = some (.cells cur e (0, 0)) ∧ n ≤ cap ∧ cap ≤ maxLen ∧ cur.size = cap ∧ cur.toList.take n = cs := by
  obtain ⟨h1, h2⟩ := h
  rcases h2 with ⟨_, h0⟩ | ⟨g, cap, cur, hv, hb, hg, hc, hm, hs, ht⟩
  · omega
  exact ⟨g, cap, cur, hv, hb, hg, hc, hm, by omega, by rwa [Nat.mul_one] at ht⟩
theorem own_mk {n cap g : Nat} {cur : Array Value} (hb : base ≤ g) (hg : w.heap[g]? = some (.cells cur e (0, 0))) (hc : n ≤ cap) (hm : cap ≤ maxLen) (hs : cur.size = cap) (ht : cur.toList.take n = cs) : w.ownsRow base e 1 (.slice (some ⟨g, 0, none⟩) n cap) n cs := by
  refine ⟨?_, .inr ⟨g, cap, cur, rfl, hb, hg, hc, hm, by omega, by rwa [Nat.mul_one]⟩⟩
  rw [← ht, List.length_take]
  simp only [Array.length_toList]
  omega
end
theorem setCells_row {g : Nat} {t : TypeId} {fr : Nat × Nat} : ∀ (vs : List Value) (o : Nat) (cur : Array Value) {w : World}, w.heap[g]? = some (.cells cur t fr) → o + vs.length ≤ cur.size → w.setCells g o vs = w.setRow g (cur.toList.take o ++ vs ++ cur.toList.drop (o + vs.length)).toArray
  | [], o, cur, w, hg, _ => by
    simp only [World.setCells, List.append_nil, List.length_nil, Nat.add_zero, List.take_append_drop, Array.toArray_toList]
    exact (setRow_self w g cur t fr hg).symm
  | v :: r, o, cur, w, hg, hl => by
    simp only [List.length_cons] at hl
    rw [World.setCells, setCell_eq_setRow w g o cur t fr v hg, setCells_row r (o + 1) (cur.setIfInBounds o v) (setRow_heap _ _ _ _ _ _ hg) (by simp; omega), setRow_setRow]
    congr 1
    apply Array.ext'
    simp only [List.length_cons, Array.toList_setIfInBounds]
    rw [List.take_set, List.drop_set_of_lt (by omega), List.take_succ_eq_append_getElem (by simp; omega), List.set_append_right _ _ (by simp; omega)]
    have e0 : o - (cur.toList.take o).length = 0 := by rw [List.length_take, Array.length_toList]; omega
    rw [e0, show o + 1 + r.length = o + (r.length + 1) by omega]
    simp
theorem shifted {cs : List Value} {i n : Nat} {cur : List Value} {u : Value} (hn : n + 1 ≤ cur.length) (hc : cur.take n = cs) (hi : i < n) :
    ((((cur.take (i + 1) ++ cs.drop i ++ cur.drop (i + 1 + (cs.drop i).length)).take i ++ [u] ++ (cur.take (i + 1) ++ cs.drop i ++ cur.drop (i + 1 + (cs.drop i).length)).drop (i + [u].length))).length = cur.length) ∧
    (((cur.take (i + 1) ++ cs.drop i ++ cur.drop (i + 1 + (cs.drop i).length)).take i ++ [u] ++ (cur.take (i + 1) ++ cs.drop i ++ cur.drop (i + 1 + (cs.drop i).length)).drop (i + [u].length)).take (n + 1) = cs.take i ++ u :: cs.drop i) := by
  have hcl : cs.length = n := by rw [← hc, List.length_take]; omega
  have hdl : (cs.drop i).length = n - i := by rw [List.length_drop, hcl]
  have e1 : (cur.take (i + 1) ++ cs.drop i ++ cur.drop (i + 1 + (cs.drop i).length)).take i = cs.take i := by
    rw [List.append_assoc, List.take_append_of_le_length (by rw [List.length_take]; omega), List.take_take, ← hc, List.take_take]
    congr 1
    omega
  have e2 : (cur.take (i + 1) ++ cs.drop i ++ cur.drop (i + 1 + (cs.drop i).length)).drop (i + 1) = cs.drop i ++ cur.drop (n + 1) := by
    rw [List.append_assoc, List.drop_append_of_le_length (by rw [List.length_take]; omega), List.drop_eq_nil_of_le (by rw [List.length_take]; omega), List.nil_append, hdl]
    congr 2
    omega
  show ((_ ++ [u] ++ List.drop (i + 1) _).length = _) ∧ ((_ ++ [u] ++ List.drop (i + 1) _).take (n + 1) = _)
  rw [e1, e2]
  refine ⟨?_, ?_⟩
  · simp only [List.length_append, List.length_take, List.length_drop, List.length_cons, List.length_nil]
    omega
  have e3 : cs.take i ++ [u] ++ (cs.drop i ++ cur.drop (n + 1)) = (cs.take i ++ u :: cs.drop i) ++ cur.drop (n + 1) := by simp
  rw [e3, List.take_append_of_le_length (by simp; omega), List.take_of_length_le (by simp; omega)]
end Go.Proofs.YtdpcgigjlcpofaaX
namespace Go.Proofs.Ytdpcgigjlcpofaa.F
open Go.RowKit Go.Proofs.YtdpcgigjlcpofaaX Go.Proofs.YtdpcgigjlcpofaaW.PrintWords Go.Proofs.YtdpcgigjlcpofaaW.PrintLast Go.Proofs.YtdpcgigjlcpofaaW.PrintMore
attribute [local go_sem] max2_int min2_int max_two min_two max_three min_three max_four min_four   
attribute [local go_sem high] str_geq str_leq str_gtr
set_option linter.unusedVariables false
set_option linter.unusedSimpArgs false
open Go.Lib
set_option maxHeartbeats 4000000 in
set_option maxRecDepth 100000 in
theorem slices_Delete_string_string.cut (g n cap i j : Nat) (cur : Array Value) (cs : List Value) (w : World) (hj : j = i + 1) (hg : w.heap[g]? = some (.cells cur 9 (0, 0)))
    (hsz : cur.size = cap) (hcs : cur.toList.take n = cs) (hi : i < n) (hnc : n ≤ cap) (hcap : cap ≤ 9223372036854775807) (h1 : ∀ x ∈ cs, x.oneCell' = true) :
    Calls Try.prog 138 #[.slice (some ⟨g, 0, none⟩) n cap, .int .i64 i, .int .i64 j] w fun e w' =>
      e = .returned (.slice (some ⟨g, 0, none⟩) (i + (n - j)) cap) ∧ ∃ cur' : Array Value, cur'.size = cap ∧ cur'.toList.take (n - 1) = cs.take i ++ cs.drop (i + 1) ∧ w'.heap[g]? = some (.cells cur' 9 (0, 0)) ∧ w.grownBy w' (some g) := by
  have U1_ := Try.underlying46
  have mixed : Try.prog.follows Departure.mixedOrders = true := by kernel_rfl
  have hcl : cs.length = n := by rw [← hcs, zQ]; simp; omega
  have hdl : (cs.drop j).length = n - j := by rw [zP, hcl]
  obtain ⟨i0, hi0, hz0, hzs, hzb⟩ := info_parts info9
  have hcell : ∀ q x, cs[q]? = some x → w.cell? ⟨g, q, none⟩ = some x := fun q x hq => by
    rw [← hcs, List.getElem?_take] at hq
    split at hq
    · simpa [World.cell?, hg] using hq
    cases hq
  have hall : ∀ q, q < cap → (w.cell? ⟨g, q, none⟩).isSome = true := fun q hq => by
    simp [World.cell?, hg, hsz, hq]
  have hfro : ∀ q, w.frozen? ⟨g, q, none⟩ = false := fun q => by simp [World.frozen?, hg]
  obtain ⟨A, hA, hsrc⟩ : ∃ A : Addr, (if cap = j then (some ⟨g, 0, none⟩ : Option Addr) else some ⟨g, j, none⟩) = some A ∧ Aside0 (∀ t u, (cs.drop j)[t]? = some u → w.drew.cell? (A.add t) = some u) := by
    by_cases h : cap = j
    · refine ⟨⟨g, 0, none⟩, by simp [h], ⟨fun t u hu => ?_⟩⟩
      have : t < (cs.drop j).length := (List.getElem?_eq_some_iff.1 hu).1
      omega
    refine ⟨⟨g, j, none⟩, by simp [h], ⟨fun t u hu => ?_⟩⟩
    rw [List.getElem?_drop] at hu
    rw [Addr.add_lit]
    exact hcell _ _ hu
  obtain ⟨c1, hc1⟩ : ∃ c1, c1 = (cur.toList.take i ++ cs.drop j ++ cur.toList.drop (i + (cs.drop j).length)).toArray := ⟨_, rfl⟩
  have hc1s : c1.size = cap := by rw [hc1]; simp; omega
  obtain ⟨W1, hW1⟩ : ∃ W1, W1 = w.drew.setCells g (0 + i * 1) (cs.drop j) := ⟨_, rfl⟩
  have hW1' : W1 = w.drew.setRow g c1 := by
    rw [hW1, hc1, setCells_row (w := w.drew) (t := 9) (fr := (0, 0)) (cs.drop j) (0 + i * 1) cur hg (by omega)]
    simp
  have hg1 : W1.heap[g]? = some (.cells c1 9 (0, 0)) := by rw [hW1']; exact setRow_heap _ _ _ _ _ _ hg
  have hn1 : n - (i + (n - j)) = 1 := by omega
  obtain ⟨c2, hc2⟩ : ∃ c2, c2 = (c1.toList.take (i + (n - j)) ++ List.replicate (n - (i + (n - j))) (Value.string { data := #[] }) ++ c1.toList.drop (i + (n - j) + (List.replicate (n - (i + (n - j))) (Value.string { data := #[] })).length)).toArray := ⟨_, rfl⟩
  have hzero : ∀ w : World, (zeroValue 9).run Try.prog w = .ok (Value.string { data := #[] }) w := fun w => by simp [zeroValue, typeInfo, hi0, hz0]
  have hclr : ∀ ty, (Builtin.clear_ #[46] ty #[.slice (some ⟨g, i + (n - j), none⟩) (n - (i + (n - j))) (cap - (i + (n - j)))]).run Try.prog W1 = .ok (.tuple #[]) (W1.setRow g c2) := fun ty => by
    rw [Lib.run_clear_slice W1 46 9 ty (Value.string { data := #[] }) U1_ hzero rfl rfl g (i + (n - j)) _ _ (by omega) (fun t ht => by simp [World.cell?, hg1]; omega) (fun t ht => by simp [World.frozen?, hg1]),
      setCells_row (w := W1) (t := 9) (fr := (0, 0)) _ (i + (n - j)) c1 hg1 (by simp; omega), hc2]
  have HF : Aside0 (c2.size = cap ∧ c2.toList.take (n - 1) = cs.take i ++ cs.drop (i + 1)) := ⟨by
    refine ⟨by rw [hc2]; simp; omega, ?_⟩
    have e1 : c1.toList.take (i + (n - j)) = cs.take i ++ cs.drop (i + 1) := by
      have e0 : cur.toList.take i = cs.take i := by rw [← hcs, List.take_take]; congr 1; omega
      rw [hc1, e0, hj]
      show (cs.take i ++ cs.drop (i + 1) ++ _).take (i + (n - (i + 1))) = _
      have hl : (cs.take i ++ cs.drop (i + 1)).length = i + (n - (i + 1)) := by simp; omega
      rw [← hl, List.take_left]
    rw [hc2, e1]
    have hl : (cs.take i ++ cs.drop (i + 1)).length = n - 1 := by simp; omega
    show (cs.take i ++ cs.drop (i + 1) ++ _ ++ _).take (n - 1) = _
    rw [List.append_assoc, ← hl, List.take_left]⟩
  have s1 : Aside0 ((cs.drop j).length = (n - j) * 1) := ⟨by rw [Nat.mul_one]; exact hdl⟩
  have s2 : Aside0 (∀ u ∈ cs.drop j, u.oneCell' = true) := ⟨fun u hu => h1 u (List.mem_of_mem_drop hu)⟩
  have s3 : Aside0 (∀ t, t < (cs.drop j).length → (w.drew.cell? ⟨g, 0 + i * 1 + t, none⟩).isSome = true ∧ w.drew.frozen? ⟨g, 0 + i * 1 + t, none⟩ = false) := ⟨fun t ht => ⟨hall _ (by omega), hfro _⟩⟩
  have hW : Aside0 (W1 = w.drew.setCells g (0 + i * 1) (cs.drop j)) := ⟨hW1⟩
  have HW : Aside0 (W1 = w.drew.setRow g c1) := ⟨hW1'⟩
  have hic : i ≤ cap := by omega
  have hjc : j ≤ cap := by omega
  have hij : i ≤ j := by omega
  have hjn : j ≤ n := by omega
  have hne : ¬ ((i : Int) = (j : Int)) := by omega
  have HJ : Aside0 (j = i + 1) := ⟨hj⟩
  have HG1 := zA hg1
  clear hW1 hW1' hg1 hc1 hc2 hcell hall hfro hcs hj hn1 hdl hcl hc1s
  go_enter Try.func138, Try.ntmps138
  go_wp2_with fail
  go_region_law_o (refine step_append_room rfl (.tmp 22) (.tmp 25) 46 rfl 9 i0 1 U1_ hi0 hzs g 0 i cap (by simp [Act.eval, Act.put]) A (n - j) (cap - j) (cs.drop j) (by simp [Act.eval, Act.put]) s1.out hsrc.out s2.out (by omega) s3.out ?_; rw [← hW.out])
  go_wp2
  go_ret
  refine ⟨rfl, c2, HF.out.1, HF.out.2, setRow_heap _ _ _ _ _ _ HG1.out, ⟨?_, ?_, ?_, ?_, fun k hk hne => ?_⟩⟩
  · show W1.os = w.os
    rw [HW.out]; rfl
  · show W1.tape = w.tape
    rw [HW.out]; rfl
  · show W1.output = w.output
    rw [HW.out]; rfl
  · rw [setRow_size, HW.out, setRow_size]; exact Nat.le_refl _
  have hk2 : k ≠ g := fun e => hne (by rw [e])
  rw [setRow_other _ _ _ _ hk2, HW.out, setRow_other _ _ _ _ hk2]; rfl
theorem slices_Delete_string_string.own (base : Nat) (ok : Nat → Prop) (v : Value) (rows : List (List Value)) (i : Nat) (w : World) (hR : (Kd.raw 1).R 9 w base ok v rows) (hi : i < rows.length) :
    Calls Try.prog 138 #[v, .int .i64 i, .int .i64 ((i : Int) + 1)] w fun e w' => ∃ v1, e = .returned v1 ∧ (Kd.raw 1).R 9 w' base ok v1 (rows.take i ++ rows.drop (i + 1)) ∧ w.grownBy w' v.ownBlock ∧ v1.ownBlock = v.ownBlock := by
  have hok := hR.1
  obtain ⟨cs, rfl, ho, h1⟩ := raw_open hR
  rw [ones_len] at hi
  have hrow : (ones cs).take i ++ (ones cs).drop (i + 1) = ones (cs.take i ++ cs.drop (i + 1)) := by simp [ones, List.map_take, List.map_drop]
  have hlen : (cs.take i ++ cs.drop (i + 1)).length = cs.length - 1 := by simp; omega
  have hall : ∀ x ∈ cs.take i ++ cs.drop (i + 1), x.oneCell' = true := fun x hx => by
    rcases List.mem_append.1 hx with h | h
    · exact h1 x (List.mem_of_mem_take h)
    exact h1 x (List.mem_of_mem_drop h)
  obtain ⟨g, cap, cur, rfl, hbg, hg, hc, hcm, hs, ht⟩ := own_at (g := 0) (cap := 0) ho (by omega)
  rw [hrow]
  refine (calls_of_args (by rw [Int.natCast_add]; rfl) (slices_Delete_string_string.cut g cs.length cap i (i + 1) cur cs w rfl hg hs ht (by omega) hc (by unfold maxLen at hcm; omega) h1)).mono ?_
  rintro e w' ⟨rfl, cur', hs', ht', hg', hgr⟩
  refine ⟨_, rfl, raw_close (by rw [hlen, show i + (cs.length - (i + 1)) = cs.length - 1 by omega]; exact own_mk (cap := cap) hbg hg' (by omega) hcm hs' ht') hall hok, hgr, rfl⟩
open Go.Lib
set_option maxHeartbeats 4000000 in
set_option maxRecDepth 100000 in
theorem slices_Delete_int_int.cut (g n cap i j : Nat) (cur : Array Value) (cs : List Value) (w : World) (hj : j = i + 1) (hg : w.heap[g]? = some (.cells cur 44 (0, 0)))
    (hsz : cur.size = cap) (hcs : cur.toList.take n = cs) (hi : i < n) (hnc : n ≤ cap) (hcap : cap ≤ 9223372036854775807) (h1 : ∀ x ∈ cs, x.oneCell' = true) :
    Calls Try.prog 139 #[.slice (some ⟨g, 0, none⟩) n cap, .int .i64 i, .int .i64 j] w fun e w' =>
      e = .returned (.slice (some ⟨g, 0, none⟩) (i + (n - j)) cap) ∧ ∃ cur' : Array Value, cur'.size = cap ∧ cur'.toList.take (n - 1) = cs.take i ++ cs.drop (i + 1) ∧ w'.heap[g]? = some (.cells cur' 44 (0, 0)) ∧ w.grownBy w' (some g) := by
  have U1_ := Try.underlying49
  have mixed : Try.prog.follows Departure.mixedOrders = true := by kernel_rfl
  have hcl : cs.length = n := by rw [← hcs, zQ]; simp; omega
  have hdl : (cs.drop j).length = n - j := by rw [zP, hcl]
  obtain ⟨i0, hi0, hz0, hzs, hzb⟩ := info_parts info44
  have hcell : ∀ q x, cs[q]? = some x → w.cell? ⟨g, q, none⟩ = some x := fun q x hq => by
    rw [← hcs, List.getElem?_take] at hq
    split at hq
    · simpa [World.cell?, hg] using hq
    cases hq
  have hall : ∀ q, q < cap → (w.cell? ⟨g, q, none⟩).isSome = true := fun q hq => by
    simp [World.cell?, hg, hsz, hq]
  have hfro : ∀ q, w.frozen? ⟨g, q, none⟩ = false := fun q => by simp [World.frozen?, hg]
  obtain ⟨A, hA, hsrc⟩ : ∃ A : Addr, (if cap = j then (some ⟨g, 0, none⟩ : Option Addr) else some ⟨g, j, none⟩) = some A ∧ Aside0 (∀ t u, (cs.drop j)[t]? = some u → w.drew.cell? (A.add t) = some u) := by
    by_cases h : cap = j
    · refine ⟨⟨g, 0, none⟩, by simp [h], ⟨fun t u hu => ?_⟩⟩
      have : t < (cs.drop j).length := (List.getElem?_eq_some_iff.1 hu).1
      omega
    refine ⟨⟨g, j, none⟩, by simp [h], ⟨fun t u hu => ?_⟩⟩
    rw [List.getElem?_drop] at hu
    rw [Addr.add_lit]
    exact hcell _ _ hu
  obtain ⟨c1, hc1⟩ : ∃ c1, c1 = (cur.toList.take i ++ cs.drop j ++ cur.toList.drop (i + (cs.drop j).length)).toArray := ⟨_, rfl⟩
  have hc1s : c1.size = cap := by rw [hc1]; simp; omega
  obtain ⟨W1, hW1⟩ : ∃ W1, W1 = w.drew.setCells g (0 + i * 1) (cs.drop j) := ⟨_, rfl⟩
  have hW1' : W1 = w.drew.setRow g c1 := by
    rw [hW1, hc1, setCells_row (w := w.drew) (t := 44) (fr := (0, 0)) (cs.drop j) (0 + i * 1) cur hg (by omega)]
    simp
  have hg1 : W1.heap[g]? = some (.cells c1 44 (0, 0)) := by rw [hW1']; exact setRow_heap _ _ _ _ _ _ hg
  have hn1 : n - (i + (n - j)) = 1 := by omega
  obtain ⟨c2, hc2⟩ : ∃ c2, c2 = (c1.toList.take (i + (n - j)) ++ List.replicate (n - (i + (n - j))) (Value.slice none 0 0) ++ c1.toList.drop (i + (n - j) + (List.replicate (n - (i + (n - j))) (Value.slice none 0 0)).length)).toArray := ⟨_, rfl⟩
  have hzero : ∀ w : World, (zeroValue 44).run Try.prog w = .ok (Value.slice none 0 0) w := fun w => by simp [zeroValue, typeInfo, hi0, hz0]
  have hclr : ∀ ty, (Builtin.clear_ #[49] ty #[.slice (some ⟨g, i + (n - j), none⟩) (n - (i + (n - j))) (cap - (i + (n - j)))]).run Try.prog W1 = .ok (.tuple #[]) (W1.setRow g c2) := fun ty => by
    rw [Lib.run_clear_slice W1 49 44 ty (Value.slice none 0 0) U1_ hzero rfl rfl g (i + (n - j)) _ _ (by omega) (fun t ht => by simp [World.cell?, hg1]; omega) (fun t ht => by simp [World.frozen?, hg1]),
      setCells_row (w := W1) (t := 44) (fr := (0, 0)) _ (i + (n - j)) c1 hg1 (by simp; omega), hc2]
  have HF : Aside0 (c2.size = cap ∧ c2.toList.take (n - 1) = cs.take i ++ cs.drop (i + 1)) := ⟨by
    refine ⟨by rw [hc2]; simp; omega, ?_⟩
    have e1 : c1.toList.take (i + (n - j)) = cs.take i ++ cs.drop (i + 1) := by
      have e0 : cur.toList.take i = cs.take i := by rw [← hcs, List.take_take]; congr 1; omega
      rw [hc1, e0, hj]
      show (cs.take i ++ cs.drop (i + 1) ++ _).take (i + (n - (i + 1))) = _
      have hl : (cs.take i ++ cs.drop (i + 1)).length = i + (n - (i + 1)) := by simp; omega
      rw [← hl, List.take_left]
    rw [hc2, e1]
    have hl : (cs.take i ++ cs.drop (i + 1)).length = n - 1 := by simp; omega
    show (cs.take i ++ cs.drop (i + 1) ++ _ ++ _).take (n - 1) = _
    rw [List.append_assoc, ← hl, List.take_left]⟩
  have s1 : Aside0 ((cs.drop j).length = (n - j) * 1) := ⟨by rw [Nat.mul_one]; exact hdl⟩
  have s2 : Aside0 (∀ u ∈ cs.drop j, u.oneCell' = true) := ⟨fun u hu => h1 u (List.mem_of_mem_drop hu)⟩
  have s3 : Aside0 (∀ t, t < (cs.drop j).length → (w.drew.cell? ⟨g, 0 + i * 1 + t, none⟩).isSome = true ∧ w.drew.frozen? ⟨g, 0 + i * 1 + t, none⟩ = false) := ⟨fun t ht => ⟨hall _ (by omega), hfro _⟩⟩
  have hW : Aside0 (W1 = w.drew.setCells g (0 + i * 1) (cs.drop j)) := ⟨hW1⟩
  have HW : Aside0 (W1 = w.drew.setRow g c1) := ⟨hW1'⟩
  have hic : i ≤ cap := by omega
  have hjc : j ≤ cap := by omega
  have hij : i ≤ j := by omega
  have hjn : j ≤ n := by omega
  have hne : ¬ ((i : Int) = (j : Int)) := by omega
  have HJ : Aside0 (j = i + 1) := ⟨hj⟩
  have HG1 := zA hg1
  clear hW1 hW1' hg1 hc1 hc2 hcell hall hfro hcs hj hn1 hdl hcl hc1s
  go_enter Try.func139, Try.ntmps139
  go_wp2_with fail
  go_region_law_o (refine step_append_room rfl (.tmp 22) (.tmp 25) 49 rfl 44 i0 1 U1_ hi0 hzs g 0 i cap (by simp [Act.eval, Act.put]) A (n - j) (cap - j) (cs.drop j) (by simp [Act.eval, Act.put]) s1.out hsrc.out s2.out (by omega) s3.out ?_; rw [← hW.out])
  go_wp2
  go_ret
  refine ⟨rfl, c2, HF.out.1, HF.out.2, setRow_heap _ _ _ _ _ _ HG1.out, ⟨?_, ?_, ?_, ?_, fun k hk hne => ?_⟩⟩
  · show W1.os = w.os
    rw [HW.out]; rfl
  · show W1.tape = w.tape
    rw [HW.out]; rfl
  · show W1.output = w.output
    rw [HW.out]; rfl
  · rw [setRow_size, HW.out, setRow_size]; exact Nat.le_refl _
  have hk2 : k ≠ g := fun e => hne (by rw [e])
  rw [setRow_other _ _ _ _ hk2, HW.out, setRow_other _ _ _ _ hk2]; rfl
theorem slices_Delete_int_int.own (base : Nat) (ok : Nat → Prop) (v : Value) (rows : List (List Value)) (i : Nat) (w : World) (hR : (Kd.raw 1).R 44 w base ok v rows) (hi : i < rows.length) :
    Calls Try.prog 139 #[v, .int .i64 i, .int .i64 ((i : Int) + 1)] w fun e w' => ∃ v1, e = .returned v1 ∧ (Kd.raw 1).R 44 w' base ok v1 (rows.take i ++ rows.drop (i + 1)) ∧ w.grownBy w' v.ownBlock ∧ v1.ownBlock = v.ownBlock := by
  have hok := hR.1
  obtain ⟨cs, rfl, ho, h1⟩ := raw_open hR
  rw [ones_len] at hi
  have hrow : (ones cs).take i ++ (ones cs).drop (i + 1) = ones (cs.take i ++ cs.drop (i + 1)) := by simp [ones, List.map_take, List.map_drop]
  have hlen : (cs.take i ++ cs.drop (i + 1)).length = cs.length - 1 := by simp; omega
  have hall : ∀ x ∈ cs.take i ++ cs.drop (i + 1), x.oneCell' = true := fun x hx => by
    rcases List.mem_append.1 hx with h | h
    · exact h1 x (List.mem_of_mem_take h)
    exact h1 x (List.mem_of_mem_drop h)
  obtain ⟨g, cap, cur, rfl, hbg, hg, hc, hcm, hs, ht⟩ := own_at (g := 0) (cap := 0) ho (by omega)
  rw [hrow]
  refine (calls_of_args (by rw [Int.natCast_add]; rfl) (slices_Delete_int_int.cut g cs.length cap i (i + 1) cur cs w rfl hg hs ht (by omega) hc (by unfold maxLen at hcm; omega) h1)).mono ?_
  rintro e w' ⟨rfl, cur', hs', ht', hg', hgr⟩
  refine ⟨_, rfl, raw_close (by rw [hlen, show i + (cs.length - (i + 1)) = cs.length - 1 by omega]; exact own_mk (cap := cap) hbg hg' (by omega) hcm hs' ht') hall hok, hgr, rfl⟩
open Go.Lib
set_option maxHeartbeats 4000000 in
set_option maxRecDepth 100000 in
theorem slices_Insert_string_string.shift (g n cap i vb m : Nat) (cur : Array Value) (cs : List Value) (u : Value) (w : World) (hm : m = 1) (hg : w.heap[g]? = some (.cells cur 9 (0, 0))) (hv : w.heap[vb]? = some (.cells #[u] 9 (0, 0))) (hne : vb ≠ g)
    (hsz : cur.size = cap) (hcs : cur.toList.take n = cs) (hi : i < n) (hroom : n + m ≤ cap) (hcap : cap ≤ 9223372036854775807) (h1 : ∀ x ∈ cs, x.oneCell' = true) (hu : u.oneCell' = true) :
    Calls Try.prog 140 #[.slice (some ⟨g, 0, none⟩) n cap, .int .i64 i, .slice (some ⟨vb, 0, none⟩) m m] w fun e w' =>
      e = .returned (.slice (some ⟨g, 0, none⟩) (n + m) cap) ∧ ∃ cur' : Array Value, cur'.size = cap ∧ cur'.toList.take (n + 1) = cs.take i ++ u :: cs.drop i ∧ w'.heap[g]? = some (.cells cur' 9 (0, 0)) ∧ w.grownBy w' (some g) := by
  have U1_ := Try.underlying46
  have u46 := run_underlying Try.underlying46
  have mixed : Try.prog.follows Departure.mixedOrders = true := by kernel_rfl
  have hcl : cs.length = n := by rw [← hcs, zQ]; simp; omega
  have hdl : (cs.drop i).length = n - i := by rw [zP, hcl]
  obtain ⟨i0, hi0, hz0, hzs, hzb⟩ := info_parts info9
  have hsz1 : (Try.prog.info? 9).map (·.size) = some 1 := by rw [hi0]; simp [hzs]
  have hov : ∀ lb cb, (callFunc 160 #[.slice (some ⟨vb, 0, none⟩) m m, .slice (some ⟨g, i + m, none⟩) lb cb]).run Try.prog w = .ok (.value (.bool false)) w := fun lb cb => by
    rw [run_callFunc_extern Try.func160 (by kernel_rfl) (by kernel_rfl) (by kernel_rfl) (e := Extern.SlicesOverlaps.overlaps #[46, 46] #[4]) (by kernel_rfl),
      Lib.run_overlaps_apart w 46 4 9 U1_ 1 (fun w => by simp [Go.sizeOf, typeInfo, hi0, hzs]) ⟨vb, 0, none⟩ ⟨g, i + m, none⟩ m m lb cb hne 9 9 1 cap (by simp [World.shape?, hv]) (by simp [World.shape?, hg, hsz]) (by omega) (by simp [World.frozen?, hv]) (by simp [World.frozen?, hv])]
    rfl
  have hcell : ∀ j x, cs[j]? = some x → w.cell? ⟨g, j, none⟩ = some x := fun j x hj => by
    rw [← hcs, List.getElem?_take] at hj
    split at hj
    · simpa [World.cell?, hg] using hj
    cases hj
  obtain ⟨c1, hc1⟩ : ∃ c1, c1 = (cur.toList.take (i + 1) ++ cs.drop i ++ cur.toList.drop (i + 1 + (cs.drop i).length)).toArray := ⟨_, rfl⟩
  obtain ⟨c2, hc2⟩ : ∃ c2, c2 = (c1.toList.take i ++ [u] ++ c1.toList.drop (i + [u].length)).toArray := ⟨_, rfl⟩
  have hsh := shifted (cs := cs) (u := u) (cur := cur.toList) (i := i) (n := n) (by simp; omega) hcs hi
  have hc1s : c1.size = cap := by rw [hc1]; simp; omega
  have hmin1 : Nat.min (n + m - i) (n + m - (i + m)) = n - i := by simp only [Nat.min_def]; split <;> omega
  have hmin2 : Nat.min m (n + m - i) = 1 := by simp only [Nat.min_def]; split <;> omega
  have hcp1 : ∀ ty dc sc, (Builtin.copy_ #[46, 46] ty #[.slice (some ⟨g, i + m, none⟩) (n + m - (i + m)) dc, .slice (some ⟨g, i, none⟩) (n + m - i) sc]).run Try.prog w.drew = .ok (goInt ((n - i : Nat) : Int)) (w.drew.setRow g c1) := fun ty dc sc => by
    have := run_copy_sized (P := Try.prog) w.drew 46 46 ty 9 1 g (i + m) (n + m - (i + m)) dc ⟨g, i, none⟩ (n + m - i) sc cur 9 (cs.drop i) U1_ hsz1 hg (by rw [hmin1, hdl]; omega)
      (fun j x hj => by rw [List.getElem?_drop] at hj; rw [Addr.add_lit]; exact hcell (i + j) x hj) (by rw [hdl]; omega) (fun x hx => h1 x (List.mem_of_mem_drop hx))
    rw [hmin1] at this
    rw [this, hc1, hm]
  have hcp2 : ∀ (W : World), W.heap = (w.drew.setRow g c1).heap → ∀ ty dc, (Builtin.copy_ #[46, 46] ty #[.slice (some ⟨g, i, none⟩) (n + m - i) dc, .slice (some ⟨vb, 0, none⟩) m m]).run Try.prog W = .ok (goInt ((1 : Nat) : Int)) (W.setRow g c2) := fun W hW ty dc => by
    have := run_copy_sized (P := Try.prog) W 46 46 ty 9 1 g i (n + m - i) dc ⟨vb, 0, none⟩ m m c1 9 [u] U1_ hsz1 (by rw [hW]; exact setRow_heap _ _ _ _ _ _ hg) (by rw [hmin2]; rfl)
      (fun j x hj => by
        have hj0 : j = 0 := by
          have := (List.getElem?_eq_some_iff.1 hj).1
          simp at this
          exact this
        subst hj0
        simp only [List.getElem?_cons_zero, zNq] at hj
        subst hj
        have : W.heap[vb]? = some (.cells #[u] 9 (0, 0)) := by rw [hW, setRow_other _ _ _ _ hne]; exact hv
        rw [Addr.add_lit]; simp [World.cell?, this]) (by simp; omega) (fun x hx => by rw [List.mem_singleton.1 hx]; exact hu)
    rw [hmin2] at this
    rw [this, hc2]
  have hz1 : ¬ ((m : Int) = 0) := by omega
  have hz2 : ¬ ((i : Int) = (n : Int)) := by omega
  have hw1 : IntKind.i64.wrap ((i : Int) + (m : Int)) = (i : Int) + (m : Int) := by rw [IntKind.wrap_i64]; omega
  have hb1 : (0 : Int) ≤ (i : Int) + (m : Int) := by omega
  have hin : i ≤ n := by omega
  have htn : ((i : Int) + (m : Int)).toNat = i + m := by omega
  have hb2 : ¬ (cap = i + m) := by omega
  have hb3 : (i : Int) ≤ (n : Int) + (m : Int) := by omega
  have hb4 : ¬ (cap = i) := by omega
  have HF : Aside0 (c2.size = cap ∧ c2.toList.take (n + 1) = cs.take i ++ u :: cs.drop i) := ⟨by
    have e : c1.toList = cur.toList.take (i + 1) ++ cs.drop i ++ cur.toList.drop (i + 1 + (cs.drop i).length) := by rw [hc1]
    rw [hc2, e]
    exact ⟨by rw [← hsz]; simpa using hsh.1, by simpa using hsh.2⟩⟩
  have HM : Aside0 (m = 1) := ⟨hm⟩
  clear hsh hc1 hc2 hcell hcs hm hmin1 hmin2 hdl hcl
  go_enter Try.func140, Try.ntmps140
  go_wp2_with (simp only [hov])
  go_region_law_o (refine step_copy_runI rfl _ _ 46 46 rfl _ _ (by simp [Act.eval, Act.put]) (by simp [Act.eval, Act.put]) (hcp1 _ _ _) ?_)
  go_wp2_with (at_builtin; refine wpList_copy_runI _ rfl _ _ 46 46 rfl _ _ rfl rfl (hcp2 _ rfl _ _) ?_)
  go_ret
  exact ⟨rfl, c2, HF.out.1, HF.out.2, setRow_heap _ _ _ _ _ _ (setRow_heap _ _ _ _ _ _ hg), ⟨rfl, rfl, rfl, by simp, fun k hk hne => by
    have hk2 : k ≠ g := fun e => hne (by rw [e])
    rw [setRow_other _ _ _ _ hk2, setRow_other _ _ _ _ hk2]; rfl⟩⟩
set_option maxHeartbeats 4000000 in
set_option maxRecDepth 100000 in
theorem slices_Insert_string_string.end (base : Nat) (ok : Nat → Prop) (v : Value) (rows : List (List Value)) (vb m : Nat) (u : Value) (w : World) (hm : m = 1) (hR : (Kd.raw 1).R 9 w base ok v rows) (hv : w.heap[vb]? = some (.cells #[u] 9 (0, 0)))
    (hu : u.oneCell' = true) (hb : base ≤ w.heap.size) (hl : (rows.length + 1) * 16 ≤ 140737488355328) (hfresh : ∀ k, w.heap.size ≤ k → ok k) :
    Calls Try.prog 140 #[v, .int .i64 rows.length, .slice (some ⟨vb, 0, none⟩) m m] w fun e w' => ∃ v1, e = .returned v1 ∧ (Kd.raw 1).R 9 w' base ok v1 (rows ++ [[u]]) ∧ w.grownBy w' v.ownBlock ∧ (v1.ownBlock = v.ownBlock ∨ ∃ b, v1.ownBlock = some b ∧ w.heap.size ≤ b) := by
  have U1_ := Try.underlying46
  have mixed : Try.prog.follows Departure.mixedOrders = true := by kernel_rfl
  have hrd : ReadsRow (fun (x cs : List Value) => cs = x ∧ cs.length = 1 ∧ ∀ u ∈ cs, u.oneCell' = true) (Kd.raw 1).sz w (some ⟨vb, 0, none⟩) m [[u]] := by
    refine ⟨by rw [hm]; rfl, by rw [hm]; decide, fun _ => ⟨_, rfl, fun j p hj => ?_⟩⟩
    have hj0 : j = 0 := by
      have := (List.getElem?_eq_some_iff.1 hj).1
      simp at this
      exact this
    subst hj0
    simp only [List.getElem?_cons_zero, zNq] at hj
    subst hj
    refine ⟨[u], rfl, ⟨rfl, rfl, fun x hx => by rw [List.mem_singleton.1 hx]; exact hu⟩, fun j x hj => ?_⟩
    have hj0 : j = 0 := by
      have := (List.getElem?_eq_some_iff.1 hj).1
      simp at this
      exact this
    subst hj0
    simp only [List.getElem?_cons_zero, zNq] at hj
    subst hj
    rw [Addr.add_lit]
    simp [World.cell?, hv]
  have HR := zA hR
  have HRD := zA hrd
  have HI := zA info9
  have HM := zA hm
  have HL : Aside0 ((rows.length + m) * 16 ≤ 140737488355328) := ⟨by rw [hm]; exact hl⟩
  have hz1 : ¬ ((m : Int) = 0) := by omega
  obtain ⟨n, hn⟩ : ∃ n, n = rows.length := ⟨_, rfl⟩
  have key : ∀ A c, v = .slice A n c → n ≤ c → (A = none → n = 0 ∧ c = 0) → Calls Try.prog 140 #[.slice A n c, .int .i64 n, .slice (some ⟨vb, 0, none⟩) m m] w fun e w' => ∃ v1, e = .returned v1 ∧ (Kd.raw 1).R 9 w' base ok v1 (rows ++ [[u]]) ∧ w.grownBy w' v.ownBlock ∧ (v1.ownBlock = v.ownBlock ∨ ∃ b, v1.ownBlock = some b ∧ w.heap.size ≤ b) := by
    intro A c hva hnc hA
    have HV := zA hva
    have HN := zA hn
    have HF := zA hfresh
    clear hR hrd hm hva hn hl hfresh
    cases A with
    | none =>
      obtain ⟨rfl, rfl⟩ := hA rfl
      clear hA
      go_enter Try.func140, Try.ntmps140
      go_wp2_with (at_builtin; refine Kd.R_append_rows (Kd.raw 1) (Rr := (fun (x cs : List Value) => cs = x ∧ cs.length = 1 ∧ ∀ u ∈ cs, u.oneCell' = true)) (w0 := w) base rfl _ _ 46 9 _ _ rfl U1_ HI.out rfl (by decide) (by decide) v rows [[u]] (some ⟨vb, 0, none⟩) m m ok (fun _ => False) (by rw [HV.out]; rfl) rfl HR.out HRD.out (fun x cs h => h) (fun k hk => hk.elim) HF.out ⟨rfl, rfl, rfl, Nat.le_refl _, fun _ _ => rfl⟩ hb HL.out ?_; intro v2 w2 ho2 hb2 hg2 hat2; have HO2 := zA ho2; have HG2 := zA hg2; have HAT2 := zA hat2; clear ho2 hb2 hg2 hat2)
      go_ret
      exact ⟨v2, by first | rfl | (simp; rfl), HO2.out, HG2.out, HAT2.out⟩
    | some ad =>
      clear hA
      obtain ⟨ab, ao, asp⟩ := ad
      go_enter Try.func140, Try.ntmps140
      go_wp2_with (at_builtin; refine Kd.R_append_rows (Kd.raw 1) (Rr := (fun (x cs : List Value) => cs = x ∧ cs.length = 1 ∧ ∀ u ∈ cs, u.oneCell' = true)) (w0 := w) base rfl _ _ 46 9 _ _ rfl U1_ HI.out rfl (by decide) (by decide) v rows [[u]] (some ⟨vb, 0, none⟩) m m ok (fun _ => False) (by rw [HV.out]; rfl) rfl HR.out HRD.out (fun x cs h => h) (fun k hk => hk.elim) HF.out ⟨rfl, rfl, rfl, Nat.le_refl _, fun _ _ => rfl⟩ hb HL.out ?_; intro v2 w2 ho2 hb2 hg2 hat2; have HO2 := zA ho2; have HG2 := zA hg2; have HAT2 := zA hat2; clear ho2 hb2 hg2 hat2)
      all_goals (go_ret; exact ⟨v2, by first | rfl | (simp; rfl), HO2.out, HG2.out, HAT2.out⟩)
  obtain ⟨_, inner, ⟨hil, hcase⟩, _⟩ := hR
  rcases hcase with ⟨hv0, h0⟩ | ⟨g, cap, cur, hv0, _, _, hc, _, _, _⟩
  · rw [← hn] at h0 ⊢
    exact calls_of_args (by rw [hv0, h0]) (key none 0 (by rw [h0, hv0]) (by omega) (fun _ => ⟨h0, rfl⟩))
  rw [← hn] at hc ⊢
  exact calls_of_args (by rw [hv0, hn]) (key (some ⟨g, 0, none⟩) cap (by rw [hn]; exact hv0) hc (fun h => by cases h))
set_option maxHeartbeats 4000000 in
set_option maxRecDepth 100000 in
theorem slices_Insert_string_string.grow (g n cap i vb m : Nat) (cur : Array Value) (cs : List Value) (u : Value) (w : World) (hm : m = 1) (hg : w.heap[g]? = some (.cells cur 9 (0, 0))) (hv : w.heap[vb]? = some (.cells #[u] 9 (0, 0)))
    (hsz : cur.size = cap) (hcs : cur.toList.take n = cs) (hi : i < n) (hnc : n ≤ cap) (hroom : cap < n + m) (h1 : ∀ x ∈ cs, x.oneCell' = true) (hu : u.oneCell' = true) (hl : (n + m) * 16 ≤ 140737488355328) :
    Calls Try.prog 140 #[.slice (some ⟨g, 0, none⟩) n cap, .int .i64 i, .slice (some ⟨vb, 0, none⟩) m m] w fun e w' =>
      ∃ (G : Nat) (cur' : Array Value), e = .returned (.slice (some ⟨w.heap.size, 0, none⟩) (n + m) G) ∧ n + m ≤ G ∧ G ≤ maxLen ∧ cur'.size = G ∧ cur'.toList.take (n + 1) = cs.take i ++ u :: cs.drop i ∧ w'.heap[w.heap.size]? = some (.cells cur' 9 (0, 0)) ∧ w.grownBy w' none := by
  have U1_ := Try.underlying46
  have U3 := Try.underlying3
  have mixed : Try.prog.follows Departure.mixedOrders = true := by kernel_rfl
  have hcl : cs.length = n := by rw [← hcs, zQ]; simp; omega
  have hdl : (cs.drop i).length = n - i := by rw [zP, hcl]
  have htl : (cs.take i).length = i := by rw [zQ]; omega
  have hgw : g < w.heap.size := (Array.getElem?_eq_some_iff.1 hg).1
  have hvw : vb < w.heap.size := (Array.getElem?_eq_some_iff.1 hv).1
  obtain ⟨i0, hi0, hz0, hzs, hzb⟩ := info_parts info9
  have hsz1 : (Try.prog.info? 9).map (·.size) = some 1 := by rw [hi0]; simp [hzs]
  have hcell : ∀ j x, cs[j]? = some x → w.cell? ⟨g, j, none⟩ = some x := fun j x hj => by
    rw [← hcs, List.getElem?_take] at hj
    split at hj
    · simpa [World.cell?, hg] using hj
    cases hj
  have hik : i + (n + m - i) = n + m := by omega
  have hold : (Builtin.firstCells i0.size i (.slice (some ⟨g, 0, none⟩) i cap)).run Try.prog w.drew = .ok (cs.take i).toArray w.drew := by
    rw [hzs]
    refine run_firstCells_some w.drew 1 i ⟨g, 0, none⟩ i cap (cs.take i) (by omega) (fun j x hj => ?_)
    rw [Addr.add_lit, Nat.zero_add]
    rw [List.getElem?_take] at hj
    split at hj
    · exact hcell j x hj
    cases hj
  obtain ⟨G, hG⟩ : ∃ G, G = grownCap w (n + m) cap 9 := ⟨_, rfl⟩
  obtain ⟨R, hR⟩ : ∃ R : Array Value, R = (cs.take i).toArray ++ Builtin.zeroCells (Value.string { data := #[] }).cells (n + m - i) ++ Builtin.zeroCells (Value.string { data := #[] }).cells (G - (n + m)) := ⟨_, rfl⟩
  have hGn : n + m ≤ G := by rw [hG]; exact grownCap_ge w _ _ _
  have hGm : G ≤ maxLen := by rw [hG]; exact grownCap_le_maxLen w (n + m) cap 9 (by unfold maxLen; omega)
  have hG63 : G ≤ 9223372036854775807 := by unfold maxLen at hGm; omega
  have hkk : (n : Int) + (m : Int) - (i : Int) = ((n + m - i : Nat) : Int) := by omega
  have hrz : ∀ ty, (Builtin.append_ #[46, 3] ty #[.slice (some ⟨g, 0, none⟩) i cap, .int .i64 ((n : Int) + (m : Int) - (i : Int))]).run Try.prog w = .ok (.slice (some ⟨w.heap.size, 0, none⟩) (n + m) G) (w.drew.alloc (.cells R 9)) := fun ty => by
    have h := Lib.run_append_grow_zeros w 46 3 ty 9 i0 _ .i64 .i64 U1_ U3 hi0 hz0 (some ⟨g, 0, none⟩) i cap (cs.take i) hold (n + m - i) (by omega) (by omega) (by omega) (by omega) (by rw [hzb]; omega) (by rw [hzb, hik]; exact growslice_fits hroom hl)
    rw [hik, ← hG, ← hR] at h
    rw [hkk]
    exact h
  have hRs : R.size = G := by rw [hR]; simp [Builtin.zeroCells, Value.cells, htl]; omega
  have hRt : R.toList.take i = cs.take i := by
    rw [hR, Array.append_assoc, Array.toList_append, List.take_append_of_le_length (by simp only [List.toList_toArray]; omega)]
    simp only [List.toList_toArray, List.take_take, Nat.min_self]
  obtain ⟨c1, hc1⟩ : ∃ c1, c1 = (R.toList.take i ++ [u] ++ R.toList.drop (i + [u].length)).toArray := ⟨_, rfl⟩
  obtain ⟨c2, hc2⟩ : ∃ c2, c2 = (c1.toList.take (i + m) ++ cs.drop i ++ c1.toList.drop (i + m + (cs.drop i).length)).toArray := ⟨_, rfl⟩
  have hc1s : c1.size = G := by rw [hc1]; simp; omega
  have hc2s : c2.size = G := by rw [hc2]; simp; omega
  have hc2t : c2.toList.take (n + 1) = cs.take i ++ u :: cs.drop i := by
    have e1 : c1.toList.take (i + m) = cs.take i ++ [u] := by
      rw [hc1, hRt, hm]
      show (cs.take i ++ [u] ++ _).take (i + 1) = _
      rw [List.take_append_of_le_length (by rw [List.length_append, htl]; exact Nat.le_refl _), List.take_of_length_le (by rw [List.length_append, htl]; exact Nat.le_refl _)]
    rw [hc2, e1]
    have e2 : (cs.take i ++ [u] ++ cs.drop i ++ c1.toList.drop (i + m + (cs.drop i).length)).toArray.toList = (cs.take i ++ u :: cs.drop i) ++ c1.toList.drop (i + m + (cs.drop i).length) := by simp
    rw [e2, List.take_append_of_le_length (by simp; omega), List.take_of_length_le (by simp; omega)]
  have hmin1 : Nat.min m (n + m - i) = 1 := by simp only [Nat.min_def]; split <;> omega
  have hmin2 : Nat.min (n - i) (n + m - (i + m)) = n - i := by simp only [Nat.min_def]; split <;> omega
  have hgN : g ≠ w.heap.size := by omega
  have hvN : vb ≠ w.heap.size := by omega
  have hcpA : ∀ (W : World), W.heap = (w.drew.alloc (.cells R 9)).heap → ∀ ty dc, (Builtin.copy_ #[46, 46] ty #[.slice (some ⟨w.heap.size, i, none⟩) (n + m - i) dc, .slice (some ⟨vb, 0, none⟩) m m]).run Try.prog W = .ok (goInt ((1 : Nat) : Int)) (W.setRow w.heap.size c1) := fun W hW ty dc => by
    have := run_copy_sized (P := Try.prog) W 46 46 ty 9 1 w.heap.size i (n + m - i) dc ⟨vb, 0, none⟩ m m R 9 [u] U1_ hsz1 (by rw [hW]; exact heap_alloc_new w.drew _) (by rw [hmin1]; rfl)
      (fun j x hj => by
        have hj0 : j = 0 := by
          have := (List.getElem?_eq_some_iff.1 hj).1
          simp at this
          exact this
        subst hj0
        simp only [List.getElem?_cons_zero, zNq] at hj
        subst hj
        have : W.heap[vb]? = some (.cells #[u] 9 (0, 0)) := by rw [hW, heap_alloc_old w.drew _ hvw]; exact hv
        rw [Addr.add_lit]; simp [World.cell?, this]) (by simp; omega) (fun x hx => by rw [List.mem_singleton.1 hx]; exact hu)
    rw [hmin1] at this
    rw [this, hc1]
  have hcpB : ∀ (W : World), W.heap = ((w.drew.alloc (.cells R 9)).setRow w.heap.size c1).heap → ∀ ty dc sc, (Builtin.copy_ #[46, 46] ty #[.slice (some ⟨w.heap.size, i + m, none⟩) (n + m - (i + m)) dc, .slice (some ⟨g, i, none⟩) (n - i) sc]).run Try.prog W = .ok (goInt ((n - i : Nat) : Int)) (W.setRow w.heap.size c2) := fun W hW ty dc sc => by
    have := run_copy_sized (P := Try.prog) W 46 46 ty 9 1 w.heap.size (i + m) (n + m - (i + m)) dc ⟨g, i, none⟩ (n - i) sc c1 9 (cs.drop i) U1_ hsz1 (by rw [hW]; exact setRow_heap _ _ _ _ _ _ (heap_alloc_new w.drew _)) (by rw [hmin2, hdl]; omega)
      (fun j x hj => by
        rw [List.getElem?_drop] at hj
        have h2 := hcell (i + j) x hj
        have h3 : W.heap[g]? = w.heap[g]? := by rw [hW, setRow_other _ _ _ _ hgN, heap_alloc_old w.drew _ hgw]; rfl
        rw [Addr.add_lit]
        simpa [World.cell?, h3] using h2) (by rw [hdl]; omega) (fun x hx => h1 x (List.mem_of_mem_drop hx))
    rw [hmin2] at this
    rw [this, hc2]
  have hz1 : ¬ ((m : Int) = 0) := by omega
  have hz2 : ¬ ((i : Int) = (n : Int)) := by omega
  have hz3 : (cap : Int) < (n : Int) + (m : Int) := by omega
  have hw1 : IntKind.i64.wrap ((i : Int) + (m : Int)) = (i : Int) + (m : Int) := by rw [IntKind.wrap_i64]; omega
  have hw2 : IntKind.i64.wrap ((n : Int) + (m : Int)) = (n : Int) + (m : Int) := by rw [IntKind.wrap_i64]; omega
  have hb1 : (0 : Int) ≤ (i : Int) + (m : Int) := by omega
  have hin : i ≤ n := by omega
  have htn : ((i : Int) + (m : Int)).toNat = i + m := by omega
  have hb3 : (i : Int) ≤ (n : Int) := by omega
  have hGi : ¬ (G = i) := by omega
  have hGim : ¬ (G = i + m) := by omega
  have hci : ¬ (cap = i) := by omega
  have HM := zA hm
  have HF : Aside0 (n + m ≤ G ∧ G ≤ maxLen ∧ c2.size = G ∧ c2.toList.take (n + 1) = cs.take i ++ u :: cs.drop i) := ⟨⟨hGn, hGm, hc2s, hc2t⟩⟩
  clear hc1 hc2 hcell hcs hm hmin1 hmin2 hdl hcl htl hold hG hR hRs hRt hc1s hc2s hc2t hkk hik
  have hE : ((w.alloc (.cells R 9)).drew).heap = (w.drew.alloc (.cells R 9)).heap := rfl
  have hcpA' := hcpA _ hE
  have hE2 : ((((w.alloc (.cells R 9)).drew).setRow w.heap.size c1).drew).heap = ((w.drew.alloc (.cells R 9)).setRow w.heap.size c1).heap := rfl
  have hcpB' := hcpB _ hE2
  clear hcpA hcpB hE hE2
  go_enter Try.func140, Try.ntmps140
  go_wp2_with (first
    | (at_builtin; refine Lib.wpList_append_run _ rfl _ _ _ _ rfl _ _ rfl rfl _ _ (hrz _) ?_)
    | (at_builtin; refine wpList_copy_runI _ rfl _ _ 46 46 rfl _ _ rfl rfl (hcpA' _ _) ?_)
    | (at_builtin; refine wpList_copy_runI _ rfl _ _ 46 46 rfl _ _ rfl rfl (hcpB' _ _ _) ?_))
  go_region_law_o (refine step_copy_runI rfl _ _ 46 46 rfl (.slice (some ⟨w.heap.size, i + m, none⟩) (n + m - (i + m)) (G - (i + m))) (.slice (some ⟨g, i, none⟩) (n - i) (cap - i)) (by simp [Act.eval, Act.put]) (by simp [Act.eval, Act.put]) (hcpB' _ _ _) ?_)
  go_wp2
  go_ret
  refine ⟨G, c2, rfl, HF.out.1, HF.out.2.1, HF.out.2.2.1, HF.out.2.2.2, setRow_heap _ _ _ _ _ _ (setRow_heap _ _ _ _ _ _ (heap_alloc_new w _)), ⟨rfl, rfl, rfl, by simp, fun k hk hne => ?_⟩⟩
  have hk2 : k ≠ w.heap.size := by omega
  rw [setRow_other _ _ _ _ hk2]
  show (World.setRow _ _ _).heap[k]? = _
  rw [setRow_other _ _ _ _ hk2]
  exact heap_alloc_old w _ hk
theorem slices_Insert_string_string.own (base : Nat) (ok : Nat → Prop) (v : Value) (rows : List (List Value)) (i vb : Nat) (u : Value) (w : World) (hR : (Kd.raw 1).R 9 w base ok v rows) (hi : i ≤ rows.length) (hv : w.heap[vb]? = some (.cells #[u] 9 (0, 0)))
    (hne : some vb ≠ v.ownBlock) (hu : u.oneCell' = true) (hb : base ≤ w.heap.size) (hl : (rows.length + 1) * 16 ≤ 140737488355328) (hfresh : ∀ k, w.heap.size ≤ k → ok k) :
    Calls Try.prog 140 #[v, .int .i64 i, .slice (some ⟨vb, 0, none⟩) 1 1] w fun e w' => ∃ v1, e = .returned v1 ∧ (Kd.raw 1).R 9 w' base ok v1 (rows.take i ++ [u] :: rows.drop i) ∧ w.grownBy w' v.ownBlock ∧ (v1.ownBlock = v.ownBlock ∨ ∃ b, v1.ownBlock = some b ∧ w.heap.size ≤ b) := by
  by_cases he : i = rows.length
  · subst he
    have := slices_Insert_string_string.end base ok v rows vb 1 u w rfl hR hv hu hb hl hfresh
    rwa [List.take_length, List.drop_length]
  have hok := hR.1
  obtain ⟨cs, rfl, ho, h1⟩ := raw_open hR
  rw [ones_len] at hi he hl
  have hrow : (ones cs).take i ++ [u] :: (ones cs).drop i = ones (cs.take i ++ u :: cs.drop i) := by simp [ones, List.map_take, List.map_drop]
  have hlen : (cs.take i ++ u :: cs.drop i).length = cs.length + 1 := by simp; omega
  have hall : ∀ x ∈ cs.take i ++ u :: cs.drop i, x.oneCell' = true := fun x hx => by
    rcases List.mem_append.1 hx with h | h
    · exact h1 x (List.mem_of_mem_take h)
    rcases List.mem_cons.1 h with rfl | h
    · exact hu
    exact h1 x (List.mem_of_mem_drop h)
  obtain ⟨g, cap, cur, rfl, hbg, hg, hc, hcm, hs, ht⟩ := own_at (g := 0) (cap := 0) ho (by omega)
  rw [hrow]
  by_cases hroom : cs.length + 1 ≤ cap
  · refine (slices_Insert_string_string.shift g cs.length cap i vb 1 cur cs u w rfl hg hv (fun e => hne (by rw [e]; rfl)) hs ht (by omega) hroom (by unfold maxLen at hcm; omega) h1 hu).mono ?_
    rintro e w' ⟨rfl, cur', hs', ht', hg', hgr⟩
    exact ⟨_, rfl, raw_close (by rw [hlen]; exact own_mk (cap := cap) hbg hg' (by omega) hcm hs' ht') hall hok, hgr, .inl rfl⟩
  refine (slices_Insert_string_string.grow g cs.length cap i vb 1 cur cs u w rfl hg hv hs ht (by omega) hc (by omega) h1 hu hl).mono ?_
  rintro e w' ⟨G, cur', rfl, hG, hGm, hs', ht', hg', hgr⟩
  refine ⟨_, rfl, raw_close (by rw [hlen]; exact own_mk (cap := G) hb hg' hG hGm hs' ht') hall (fun k hk => hfresh k ?_), ⟨hgr.os, hgr.tape, hgr.output, hgr.size, fun k hk _ => hgr.block k hk (by simp)⟩, .inr ⟨_, rfl, Nat.le_refl _⟩⟩
  simp [Value.ownBlock] at hk
  omega
open Go.Lib
set_option maxHeartbeats 4000000 in
set_option maxRecDepth 100000 in
theorem slices_Insert_int_int.shift (g n cap i vb m : Nat) (cur : Array Value) (cs : List Value) (u : Value) (w : World) (hm : m = 1) (hg : w.heap[g]? = some (.cells cur 44 (0, 0))) (hv : w.heap[vb]? = some (.cells #[u] 44 (0, 0))) (hne : vb ≠ g)
    (hsz : cur.size = cap) (hcs : cur.toList.take n = cs) (hi : i < n) (hroom : n + m ≤ cap) (hcap : cap ≤ 9223372036854775807) (h1 : ∀ x ∈ cs, x.oneCell' = true) (hu : u.oneCell' = true) :
    Calls Try.prog 141 #[.slice (some ⟨g, 0, none⟩) n cap, .int .i64 i, .slice (some ⟨vb, 0, none⟩) m m] w fun e w' =>
      e = .returned (.slice (some ⟨g, 0, none⟩) (n + m) cap) ∧ ∃ cur' : Array Value, cur'.size = cap ∧ cur'.toList.take (n + 1) = cs.take i ++ u :: cs.drop i ∧ w'.heap[g]? = some (.cells cur' 44 (0, 0)) ∧ w.grownBy w' (some g) := by
  have U1_ := Try.underlying49
  have u46 := run_underlying Try.underlying49
  have mixed : Try.prog.follows Departure.mixedOrders = true := by kernel_rfl
  have hcl : cs.length = n := by rw [← hcs, zQ]; simp; omega
  have hdl : (cs.drop i).length = n - i := by rw [zP, hcl]
  obtain ⟨i0, hi0, hz0, hzs, hzb⟩ := info_parts info44
  have hsz1 : (Try.prog.info? 44).map (·.size) = some 1 := by rw [hi0]; simp [hzs]
  have hov : ∀ lb cb, (callFunc 162 #[.slice (some ⟨vb, 0, none⟩) m m, .slice (some ⟨g, i + m, none⟩) lb cb]).run Try.prog w = .ok (.value (.bool false)) w := fun lb cb => by
    rw [run_callFunc_extern Try.func162 (by kernel_rfl) (by kernel_rfl) (by kernel_rfl) (e := Extern.SlicesOverlaps.overlaps #[49, 49] #[4]) (by kernel_rfl),
      Lib.run_overlaps_apart w 49 4 44 U1_ 1 (fun w => by simp [Go.sizeOf, typeInfo, hi0, hzs]) ⟨vb, 0, none⟩ ⟨g, i + m, none⟩ m m lb cb hne 44 44 1 cap (by simp [World.shape?, hv]) (by simp [World.shape?, hg, hsz]) (by omega) (by simp [World.frozen?, hv]) (by simp [World.frozen?, hv])]
    rfl
  have hcell : ∀ j x, cs[j]? = some x → w.cell? ⟨g, j, none⟩ = some x := fun j x hj => by
    rw [← hcs, List.getElem?_take] at hj
    split at hj
    · simpa [World.cell?, hg] using hj
    cases hj
  obtain ⟨c1, hc1⟩ : ∃ c1, c1 = (cur.toList.take (i + 1) ++ cs.drop i ++ cur.toList.drop (i + 1 + (cs.drop i).length)).toArray := ⟨_, rfl⟩
  obtain ⟨c2, hc2⟩ : ∃ c2, c2 = (c1.toList.take i ++ [u] ++ c1.toList.drop (i + [u].length)).toArray := ⟨_, rfl⟩
  have hsh := shifted (cs := cs) (u := u) (cur := cur.toList) (i := i) (n := n) (by simp; omega) hcs hi
  have hc1s : c1.size = cap := by rw [hc1]; simp; omega
  have hmin1 : Nat.min (n + m - i) (n + m - (i + m)) = n - i := by simp only [Nat.min_def]; split <;> omega
  have hmin2 : Nat.min m (n + m - i) = 1 := by simp only [Nat.min_def]; split <;> omega
  have hcp1 : ∀ ty dc sc, (Builtin.copy_ #[49, 49] ty #[.slice (some ⟨g, i + m, none⟩) (n + m - (i + m)) dc, .slice (some ⟨g, i, none⟩) (n + m - i) sc]).run Try.prog w.drew = .ok (goInt ((n - i : Nat) : Int)) (w.drew.setRow g c1) := fun ty dc sc => by
    have := run_copy_sized (P := Try.prog) w.drew 49 49 ty 44 1 g (i + m) (n + m - (i + m)) dc ⟨g, i, none⟩ (n + m - i) sc cur 44 (cs.drop i) U1_ hsz1 hg (by rw [hmin1, hdl]; omega)
      (fun j x hj => by rw [List.getElem?_drop] at hj; rw [Addr.add_lit]; exact hcell (i + j) x hj) (by rw [hdl]; omega) (fun x hx => h1 x (List.mem_of_mem_drop hx))
    rw [hmin1] at this
    rw [this, hc1, hm]
  have hcp2 : ∀ (W : World), W.heap = (w.drew.setRow g c1).heap → ∀ ty dc, (Builtin.copy_ #[49, 49] ty #[.slice (some ⟨g, i, none⟩) (n + m - i) dc, .slice (some ⟨vb, 0, none⟩) m m]).run Try.prog W = .ok (goInt ((1 : Nat) : Int)) (W.setRow g c2) := fun W hW ty dc => by
    have := run_copy_sized (P := Try.prog) W 49 49 ty 44 1 g i (n + m - i) dc ⟨vb, 0, none⟩ m m c1 44 [u] U1_ hsz1 (by rw [hW]; exact setRow_heap _ _ _ _ _ _ hg) (by rw [hmin2]; rfl)
      (fun j x hj => by
        have hj0 : j = 0 := by
          have := (List.getElem?_eq_some_iff.1 hj).1
          simp at this
          exact this
        subst hj0
        simp only [List.getElem?_cons_zero, zNq] at hj
        subst hj
        have : W.heap[vb]? = some (.cells #[u] 44 (0, 0)) := by rw [hW, setRow_other _ _ _ _ hne]; exact hv
        rw [Addr.add_lit]; simp [World.cell?, this]) (by simp; omega) (fun x hx => by rw [List.mem_singleton.1 hx]; exact hu)
    rw [hmin2] at this
    rw [this, hc2]
  have hz1 : ¬ ((m : Int) = 0) := by omega
  have hz2 : ¬ ((i : Int) = (n : Int)) := by omega
  have hw1 : IntKind.i64.wrap ((i : Int) + (m : Int)) = (i : Int) + (m : Int) := by rw [IntKind.wrap_i64]; omega
  have hb1 : (0 : Int) ≤ (i : Int) + (m : Int) := by omega
  have hin : i ≤ n := by omega
  have htn : ((i : Int) + (m : Int)).toNat = i + m := by omega
  have hb2 : ¬ (cap = i + m) := by omega
  have hb3 : (i : Int) ≤ (n : Int) + (m : Int) := by omega
  have hb4 : ¬ (cap = i) := by omega
  have HF : Aside0 (c2.size = cap ∧ c2.toList.take (n + 1) = cs.take i ++ u :: cs.drop i) := ⟨by
    have e : c1.toList = cur.toList.take (i + 1) ++ cs.drop i ++ cur.toList.drop (i + 1 + (cs.drop i).length) := by rw [hc1]
    rw [hc2, e]
    exact ⟨by rw [← hsz]; simpa using hsh.1, by simpa using hsh.2⟩⟩
  have HM : Aside0 (m = 1) := ⟨hm⟩
  clear hsh hc1 hc2 hcell hcs hm hmin1 hmin2 hdl hcl
  go_enter Try.func141, Try.ntmps141
  go_wp2_with (simp only [hov])
  go_region_law_o (refine step_copy_runI rfl _ _ 49 49 rfl _ _ (by simp [Act.eval, Act.put]) (by simp [Act.eval, Act.put]) (hcp1 _ _ _) ?_)
  go_wp2_with (at_builtin; refine wpList_copy_runI _ rfl _ _ 49 49 rfl _ _ rfl rfl (hcp2 _ rfl _ _) ?_)
  go_ret
  exact ⟨rfl, c2, HF.out.1, HF.out.2, setRow_heap _ _ _ _ _ _ (setRow_heap _ _ _ _ _ _ hg), ⟨rfl, rfl, rfl, by simp, fun k hk hne => by
    have hk2 : k ≠ g := fun e => hne (by rw [e])
    rw [setRow_other _ _ _ _ hk2, setRow_other _ _ _ _ hk2]; rfl⟩⟩
set_option maxHeartbeats 4000000 in
set_option maxRecDepth 100000 in
theorem slices_Insert_int_int.end (base : Nat) (ok : Nat → Prop) (v : Value) (rows : List (List Value)) (vb m : Nat) (u : Value) (w : World) (hm : m = 1) (hR : (Kd.raw 1).R 44 w base ok v rows) (hv : w.heap[vb]? = some (.cells #[u] 44 (0, 0)))
    (hu : u.oneCell' = true) (hb : base ≤ w.heap.size) (hl : (rows.length + 1) * 24 ≤ 140737488355328) (hfresh : ∀ k, w.heap.size ≤ k → ok k) :
    Calls Try.prog 141 #[v, .int .i64 rows.length, .slice (some ⟨vb, 0, none⟩) m m] w fun e w' => ∃ v1, e = .returned v1 ∧ (Kd.raw 1).R 44 w' base ok v1 (rows ++ [[u]]) ∧ w.grownBy w' v.ownBlock ∧ (v1.ownBlock = v.ownBlock ∨ ∃ b, v1.ownBlock = some b ∧ w.heap.size ≤ b) := by
  have U1_ := Try.underlying49
  have mixed : Try.prog.follows Departure.mixedOrders = true := by kernel_rfl
  have hrd : ReadsRow (fun (x cs : List Value) => cs = x ∧ cs.length = 1 ∧ ∀ u ∈ cs, u.oneCell' = true) (Kd.raw 1).sz w (some ⟨vb, 0, none⟩) m [[u]] := by
    refine ⟨by rw [hm]; rfl, by rw [hm]; decide, fun _ => ⟨_, rfl, fun j p hj => ?_⟩⟩
    have hj0 : j = 0 := by
      have := (List.getElem?_eq_some_iff.1 hj).1
      simp at this
      exact this
    subst hj0
    simp only [List.getElem?_cons_zero, zNq] at hj
    subst hj
    refine ⟨[u], rfl, ⟨rfl, rfl, fun x hx => by rw [List.mem_singleton.1 hx]; exact hu⟩, fun j x hj => ?_⟩
    have hj0 : j = 0 := by
      have := (List.getElem?_eq_some_iff.1 hj).1
      simp at this
      exact this
    subst hj0
    simp only [List.getElem?_cons_zero, zNq] at hj
    subst hj
    rw [Addr.add_lit]
    simp [World.cell?, hv]
  have HR := zA hR
  have HRD := zA hrd
  have HI := zA info44
  have HM := zA hm
  have HL : Aside0 ((rows.length + m) * 24 ≤ 140737488355328) := ⟨by rw [hm]; exact hl⟩
  have hz1 : ¬ ((m : Int) = 0) := by omega
  obtain ⟨n, hn⟩ : ∃ n, n = rows.length := ⟨_, rfl⟩
  have key : ∀ A c, v = .slice A n c → n ≤ c → (A = none → n = 0 ∧ c = 0) → Calls Try.prog 141 #[.slice A n c, .int .i64 n, .slice (some ⟨vb, 0, none⟩) m m] w fun e w' => ∃ v1, e = .returned v1 ∧ (Kd.raw 1).R 44 w' base ok v1 (rows ++ [[u]]) ∧ w.grownBy w' v.ownBlock ∧ (v1.ownBlock = v.ownBlock ∨ ∃ b, v1.ownBlock = some b ∧ w.heap.size ≤ b) := by
    intro A c hva hnc hA
    have HV := zA hva
    have HN := zA hn
    have HF := zA hfresh
    clear hR hrd hm hva hn hl hfresh
    cases A with
    | none =>
      obtain ⟨rfl, rfl⟩ := hA rfl
      clear hA
      go_enter Try.func141, Try.ntmps141
      go_wp2_with (at_builtin; refine Kd.R_append_rows (Kd.raw 1) (Rr := (fun (x cs : List Value) => cs = x ∧ cs.length = 1 ∧ ∀ u ∈ cs, u.oneCell' = true)) (w0 := w) base rfl _ _ 49 44 _ _ rfl U1_ HI.out rfl (by decide) (by decide) v rows [[u]] (some ⟨vb, 0, none⟩) m m ok (fun _ => False) (by rw [HV.out]; rfl) rfl HR.out HRD.out (fun x cs h => h) (fun k hk => hk.elim) HF.out ⟨rfl, rfl, rfl, Nat.le_refl _, fun _ _ => rfl⟩ hb HL.out ?_; intro v2 w2 ho2 hb2 hg2 hat2; have HO2 := zA ho2; have HG2 := zA hg2; have HAT2 := zA hat2; clear ho2 hb2 hg2 hat2)
      go_ret
      exact ⟨v2, by first | rfl | (simp; rfl), HO2.out, HG2.out, HAT2.out⟩
    | some ad =>
      clear hA
      obtain ⟨ab, ao, asp⟩ := ad
      go_enter Try.func141, Try.ntmps141
      go_wp2_with (at_builtin; refine Kd.R_append_rows (Kd.raw 1) (Rr := (fun (x cs : List Value) => cs = x ∧ cs.length = 1 ∧ ∀ u ∈ cs, u.oneCell' = true)) (w0 := w) base rfl _ _ 49 44 _ _ rfl U1_ HI.out rfl (by decide) (by decide) v rows [[u]] (some ⟨vb, 0, none⟩) m m ok (fun _ => False) (by rw [HV.out]; rfl) rfl HR.out HRD.out (fun x cs h => h) (fun k hk => hk.elim) HF.out ⟨rfl, rfl, rfl, Nat.le_refl _, fun _ _ => rfl⟩ hb HL.out ?_; intro v2 w2 ho2 hb2 hg2 hat2; have HO2 := zA ho2; have HG2 := zA hg2; have HAT2 := zA hat2; clear ho2 hb2 hg2 hat2)
      all_goals (go_ret; exact ⟨v2, by first | rfl | (simp; rfl), HO2.out, HG2.out, HAT2.out⟩)
  obtain ⟨_, inner, ⟨hil, hcase⟩, _⟩ := hR
  rcases hcase with ⟨hv0, h0⟩ | ⟨g, cap, cur, hv0, _, _, hc, _, _, _⟩
  · rw [← hn] at h0 ⊢
    exact calls_of_args (by rw [hv0, h0]) (key none 0 (by rw [h0, hv0]) (by omega) (fun _ => ⟨h0, rfl⟩))
  rw [← hn] at hc ⊢
  exact calls_of_args (by rw [hv0, hn]) (key (some ⟨g, 0, none⟩) cap (by rw [hn]; exact hv0) hc (fun h => by cases h))
set_option maxHeartbeats 4000000 in
set_option maxRecDepth 100000 in
theorem slices_Insert_int_int.grow (g n cap i vb m : Nat) (cur : Array Value) (cs : List Value) (u : Value) (w : World) (hm : m = 1) (hg : w.heap[g]? = some (.cells cur 44 (0, 0))) (hv : w.heap[vb]? = some (.cells #[u] 44 (0, 0)))
    (hsz : cur.size = cap) (hcs : cur.toList.take n = cs) (hi : i < n) (hnc : n ≤ cap) (hroom : cap < n + m) (h1 : ∀ x ∈ cs, x.oneCell' = true) (hu : u.oneCell' = true) (hl : (n + m) * 24 ≤ 140737488355328) :
    Calls Try.prog 141 #[.slice (some ⟨g, 0, none⟩) n cap, .int .i64 i, .slice (some ⟨vb, 0, none⟩) m m] w fun e w' =>
      ∃ (G : Nat) (cur' : Array Value), e = .returned (.slice (some ⟨w.heap.size, 0, none⟩) (n + m) G) ∧ n + m ≤ G ∧ G ≤ maxLen ∧ cur'.size = G ∧ cur'.toList.take (n + 1) = cs.take i ++ u :: cs.drop i ∧ w'.heap[w.heap.size]? = some (.cells cur' 44 (0, 0)) ∧ w.grownBy w' none := by
  have U1_ := Try.underlying49
  have U3 := Try.underlying3
  have mixed : Try.prog.follows Departure.mixedOrders = true := by kernel_rfl
  have hcl : cs.length = n := by rw [← hcs, zQ]; simp; omega
  have hdl : (cs.drop i).length = n - i := by rw [zP, hcl]
  have htl : (cs.take i).length = i := by rw [zQ]; omega
  have hgw : g < w.heap.size := (Array.getElem?_eq_some_iff.1 hg).1
  have hvw : vb < w.heap.size := (Array.getElem?_eq_some_iff.1 hv).1
  obtain ⟨i0, hi0, hz0, hzs, hzb⟩ := info_parts info44
  have hsz1 : (Try.prog.info? 44).map (·.size) = some 1 := by rw [hi0]; simp [hzs]
  have hcell : ∀ j x, cs[j]? = some x → w.cell? ⟨g, j, none⟩ = some x := fun j x hj => by
    rw [← hcs, List.getElem?_take] at hj
    split at hj
    · simpa [World.cell?, hg] using hj
    cases hj
  have hik : i + (n + m - i) = n + m := by omega
  have hold : (Builtin.firstCells i0.size i (.slice (some ⟨g, 0, none⟩) i cap)).run Try.prog w.drew = .ok (cs.take i).toArray w.drew := by
    rw [hzs]
    refine run_firstCells_some w.drew 1 i ⟨g, 0, none⟩ i cap (cs.take i) (by omega) (fun j x hj => ?_)
    rw [Addr.add_lit, Nat.zero_add]
    rw [List.getElem?_take] at hj
    split at hj
    · exact hcell j x hj
    cases hj
  obtain ⟨G, hG⟩ : ∃ G, G = grownCap w (n + m) cap 44 := ⟨_, rfl⟩
  obtain ⟨R, hR⟩ : ∃ R : Array Value, R = (cs.take i).toArray ++ Builtin.zeroCells (Value.slice none 0 0).cells (n + m - i) ++ Builtin.zeroCells (Value.slice none 0 0).cells (G - (n + m)) := ⟨_, rfl⟩
  have hGn : n + m ≤ G := by rw [hG]; exact grownCap_ge w _ _ _
  have hGm : G ≤ maxLen := by rw [hG]; exact grownCap_le_maxLen w (n + m) cap 44 (by unfold maxLen; omega)
  have hG63 : G ≤ 9223372036854775807 := by unfold maxLen at hGm; omega
  have hkk : (n : Int) + (m : Int) - (i : Int) = ((n + m - i : Nat) : Int) := by omega
  have hrz : ∀ ty, (Builtin.append_ #[49, 3] ty #[.slice (some ⟨g, 0, none⟩) i cap, .int .i64 ((n : Int) + (m : Int) - (i : Int))]).run Try.prog w = .ok (.slice (some ⟨w.heap.size, 0, none⟩) (n + m) G) (w.drew.alloc (.cells R 44)) := fun ty => by
    have h := Lib.run_append_grow_zeros w 49 3 ty 44 i0 _ .i64 .i64 U1_ U3 hi0 hz0 (some ⟨g, 0, none⟩) i cap (cs.take i) hold (n + m - i) (by omega) (by omega) (by omega) (by omega) (by rw [hzb]; omega) (by rw [hzb, hik]; exact growslice_fits hroom hl)
    rw [hik, ← hG, ← hR] at h
    rw [hkk]
    exact h
  have hRs : R.size = G := by rw [hR]; simp [Builtin.zeroCells, Value.cells, htl]; omega
  have hRt : R.toList.take i = cs.take i := by
    rw [hR, Array.append_assoc, Array.toList_append, List.take_append_of_le_length (by simp only [List.toList_toArray]; omega)]
    simp only [List.toList_toArray, List.take_take, Nat.min_self]
  obtain ⟨c1, hc1⟩ : ∃ c1, c1 = (R.toList.take i ++ [u] ++ R.toList.drop (i + [u].length)).toArray := ⟨_, rfl⟩
  obtain ⟨c2, hc2⟩ : ∃ c2, c2 = (c1.toList.take (i + m) ++ cs.drop i ++ c1.toList.drop (i + m + (cs.drop i).length)).toArray := ⟨_, rfl⟩
  have hc1s : c1.size = G := by rw [hc1]; simp; omega
  have hc2s : c2.size = G := by rw [hc2]; simp; omega
  have hc2t : c2.toList.take (n + 1) = cs.take i ++ u :: cs.drop i := by
    have e1 : c1.toList.take (i + m) = cs.take i ++ [u] := by
      rw [hc1, hRt, hm]
      show (cs.take i ++ [u] ++ _).take (i + 1) = _
      rw [List.take_append_of_le_length (by rw [List.length_append, htl]; exact Nat.le_refl _), List.take_of_length_le (by rw [List.length_append, htl]; exact Nat.le_refl _)]
    rw [hc2, e1]
    have e2 : (cs.take i ++ [u] ++ cs.drop i ++ c1.toList.drop (i + m + (cs.drop i).length)).toArray.toList = (cs.take i ++ u :: cs.drop i) ++ c1.toList.drop (i + m + (cs.drop i).length) := by simp
    rw [e2, List.take_append_of_le_length (by simp; omega), List.take_of_length_le (by simp; omega)]
  have hmin1 : Nat.min m (n + m - i) = 1 := by simp only [Nat.min_def]; split <;> omega
  have hmin2 : Nat.min (n - i) (n + m - (i + m)) = n - i := by simp only [Nat.min_def]; split <;> omega
  have hgN : g ≠ w.heap.size := by omega
  have hvN : vb ≠ w.heap.size := by omega
  have hcpA : ∀ (W : World), W.heap = (w.drew.alloc (.cells R 44)).heap → ∀ ty dc, (Builtin.copy_ #[49, 49] ty #[.slice (some ⟨w.heap.size, i, none⟩) (n + m - i) dc, .slice (some ⟨vb, 0, none⟩) m m]).run Try.prog W = .ok (goInt ((1 : Nat) : Int)) (W.setRow w.heap.size c1) := fun W hW ty dc => by
    have := run_copy_sized (P := Try.prog) W 49 49 ty 44 1 w.heap.size i (n + m - i) dc ⟨vb, 0, none⟩ m m R 44 [u] U1_ hsz1 (by rw [hW]; exact heap_alloc_new w.drew _) (by rw [hmin1]; rfl)
      (fun j x hj => by
        have hj0 : j = 0 := by
          have := (List.getElem?_eq_some_iff.1 hj).1
          simp at this
          exact this
        subst hj0
        simp only [List.getElem?_cons_zero, zNq] at hj
        subst hj
        have : W.heap[vb]? = some (.cells #[u] 44 (0, 0)) := by rw [hW, heap_alloc_old w.drew _ hvw]; exact hv
        rw [Addr.add_lit]; simp [World.cell?, this]) (by simp; omega) (fun x hx => by rw [List.mem_singleton.1 hx]; exact hu)
    rw [hmin1] at this
    rw [this, hc1]
  have hcpB : ∀ (W : World), W.heap = ((w.drew.alloc (.cells R 44)).setRow w.heap.size c1).heap → ∀ ty dc sc, (Builtin.copy_ #[49, 49] ty #[.slice (some ⟨w.heap.size, i + m, none⟩) (n + m - (i + m)) dc, .slice (some ⟨g, i, none⟩) (n - i) sc]).run Try.prog W = .ok (goInt ((n - i : Nat) : Int)) (W.setRow w.heap.size c2) := fun W hW ty dc sc => by
    have := run_copy_sized (P := Try.prog) W 49 49 ty 44 1 w.heap.size (i + m) (n + m - (i + m)) dc ⟨g, i, none⟩ (n - i) sc c1 44 (cs.drop i) U1_ hsz1 (by rw [hW]; exact setRow_heap _ _ _ _ _ _ (heap_alloc_new w.drew _)) (by rw [hmin2, hdl]; omega)
      (fun j x hj => by
        rw [List.getElem?_drop] at hj
        have h2 := hcell (i + j) x hj
        have h3 : W.heap[g]? = w.heap[g]? := by rw [hW, setRow_other _ _ _ _ hgN, heap_alloc_old w.drew _ hgw]; rfl
        rw [Addr.add_lit]
        simpa [World.cell?, h3] using h2) (by rw [hdl]; omega) (fun x hx => h1 x (List.mem_of_mem_drop hx))
    rw [hmin2] at this
    rw [this, hc2]
  have hz1 : ¬ ((m : Int) = 0) := by omega
  have hz2 : ¬ ((i : Int) = (n : Int)) := by omega
  have hz3 : (cap : Int) < (n : Int) + (m : Int) := by omega
  have hw1 : IntKind.i64.wrap ((i : Int) + (m : Int)) = (i : Int) + (m : Int) := by rw [IntKind.wrap_i64]; omega
  have hw2 : IntKind.i64.wrap ((n : Int) + (m : Int)) = (n : Int) + (m : Int) := by rw [IntKind.wrap_i64]; omega
  have hb1 : (0 : Int) ≤ (i : Int) + (m : Int) := by omega
  have hin : i ≤ n := by omega
  have htn : ((i : Int) + (m : Int)).toNat = i + m := by omega
  have hb3 : (i : Int) ≤ (n : Int) := by omega
  have hGi : ¬ (G = i) := by omega
  have hGim : ¬ (G = i + m) := by omega
  have hci : ¬ (cap = i) := by omega
  have HM := zA hm
  have HF : Aside0 (n + m ≤ G ∧ G ≤ maxLen ∧ c2.size = G ∧ c2.toList.take (n + 1) = cs.take i ++ u :: cs.drop i) := ⟨⟨hGn, hGm, hc2s, hc2t⟩⟩
  clear hc1 hc2 hcell hcs hm hmin1 hmin2 hdl hcl htl hold hG hR hRs hRt hc1s hc2s hc2t hkk hik
  have hE : ((w.alloc (.cells R 44)).drew).heap = (w.drew.alloc (.cells R 44)).heap := rfl
  have hcpA' := hcpA _ hE
  have hE2 : ((((w.alloc (.cells R 44)).drew).setRow w.heap.size c1).drew).heap = ((w.drew.alloc (.cells R 44)).setRow w.heap.size c1).heap := rfl
  have hcpB' := hcpB _ hE2
  clear hcpA hcpB hE hE2
  go_enter Try.func141, Try.ntmps141
  go_wp2_with (first
    | (at_builtin; refine Lib.wpList_append_run _ rfl _ _ _ _ rfl _ _ rfl rfl _ _ (hrz _) ?_)
    | (at_builtin; refine wpList_copy_runI _ rfl _ _ 49 49 rfl _ _ rfl rfl (hcpA' _ _) ?_)
    | (at_builtin; refine wpList_copy_runI _ rfl _ _ 49 49 rfl _ _ rfl rfl (hcpB' _ _ _) ?_))
  go_region_law_o (refine step_copy_runI rfl _ _ 49 49 rfl (.slice (some ⟨w.heap.size, i + m, none⟩) (n + m - (i + m)) (G - (i + m))) (.slice (some ⟨g, i, none⟩) (n - i) (cap - i)) (by simp [Act.eval, Act.put]) (by simp [Act.eval, Act.put]) (hcpB' _ _ _) ?_)
  go_wp2
  go_ret
  refine ⟨G, c2, rfl, HF.out.1, HF.out.2.1, HF.out.2.2.1, HF.out.2.2.2, setRow_heap _ _ _ _ _ _ (setRow_heap _ _ _ _ _ _ (heap_alloc_new w _)), ⟨rfl, rfl, rfl, by simp, fun k hk hne => ?_⟩⟩
  have hk2 : k ≠ w.heap.size := by omega
  rw [setRow_other _ _ _ _ hk2]
  show (World.setRow _ _ _).heap[k]? = _
  rw [setRow_other _ _ _ _ hk2]
  exact heap_alloc_old w _ hk
theorem slices_Insert_int_int.own (base : Nat) (ok : Nat → Prop) (v : Value) (rows : List (List Value)) (i vb : Nat) (u : Value) (w : World) (hR : (Kd.raw 1).R 44 w base ok v rows) (hi : i ≤ rows.length) (hv : w.heap[vb]? = some (.cells #[u] 44 (0, 0)))
    (hne : some vb ≠ v.ownBlock) (hu : u.oneCell' = true) (hb : base ≤ w.heap.size) (hl : (rows.length + 1) * 24 ≤ 140737488355328) (hfresh : ∀ k, w.heap.size ≤ k → ok k) :
    Calls Try.prog 141 #[v, .int .i64 i, .slice (some ⟨vb, 0, none⟩) 1 1] w fun e w' => ∃ v1, e = .returned v1 ∧ (Kd.raw 1).R 44 w' base ok v1 (rows.take i ++ [u] :: rows.drop i) ∧ w.grownBy w' v.ownBlock ∧ (v1.ownBlock = v.ownBlock ∨ ∃ b, v1.ownBlock = some b ∧ w.heap.size ≤ b) := by
  by_cases he : i = rows.length
  · subst he
    have := slices_Insert_int_int.end base ok v rows vb 1 u w rfl hR hv hu hb hl hfresh
    rwa [List.take_length, List.drop_length]
  have hok := hR.1
  obtain ⟨cs, rfl, ho, h1⟩ := raw_open hR
  rw [ones_len] at hi he hl
  have hrow : (ones cs).take i ++ [u] :: (ones cs).drop i = ones (cs.take i ++ u :: cs.drop i) := by simp [ones, List.map_take, List.map_drop]
  have hlen : (cs.take i ++ u :: cs.drop i).length = cs.length + 1 := by simp; omega
  have hall : ∀ x ∈ cs.take i ++ u :: cs.drop i, x.oneCell' = true := fun x hx => by
    rcases List.mem_append.1 hx with h | h
    · exact h1 x (List.mem_of_mem_take h)
    rcases List.mem_cons.1 h with rfl | h
    · exact hu
    exact h1 x (List.mem_of_mem_drop h)
  obtain ⟨g, cap, cur, rfl, hbg, hg, hc, hcm, hs, ht⟩ := own_at (g := 0) (cap := 0) ho (by omega)
  rw [hrow]
  by_cases hroom : cs.length + 1 ≤ cap
  · refine (slices_Insert_int_int.shift g cs.length cap i vb 1 cur cs u w rfl hg hv (fun e => hne (by rw [e]; rfl)) hs ht (by omega) hroom (by unfold maxLen at hcm; omega) h1 hu).mono ?_
    rintro e w' ⟨rfl, cur', hs', ht', hg', hgr⟩
    exact ⟨_, rfl, raw_close (by rw [hlen]; exact own_mk (cap := cap) hbg hg' (by omega) hcm hs' ht') hall hok, hgr, .inl rfl⟩
  refine (slices_Insert_int_int.grow g cs.length cap i vb 1 cur cs u w rfl hg hv hs ht (by omega) hc (by omega) h1 hu hl).mono ?_
  rintro e w' ⟨G, cur', rfl, hG, hGm, hs', ht', hg', hgr⟩
  refine ⟨_, rfl, raw_close (by rw [hlen]; exact own_mk (cap := G) hb hg' hG hGm hs' ht') hall (fun k hk => hfresh k ?_), ⟨hgr.os, hgr.tape, hgr.output, hgr.size, fun k hk _ => hgr.block k hk (by simp)⟩, .inr ⟨_, rfl, Nat.le_refl _⟩⟩
  simp [Value.ownBlock] at hk
  omega
end Go.Proofs.Ytdpcgigjlcpofaa.F
set_option linter.unusedVariables false
set_option linter.unusedSimpArgs false
namespace Go.Proofs.YtdpcgigjlcpofaaX
open Go.RowKit Go.Proofs.YtdpcgigjlcpofaaW.PrintWords Go.Proofs.YtdpcgigjlcpofaaW.PrintLast Go.Proofs.YtdpcgigjlcpofaaW.PrintMore
def Cuts (P : Program) (F e : Nat) : Prop := ∀ (base : Nat) (ok : Nat → Prop) (v : Value) (rows : List (List Value)) (i : Nat) (w : World), (Kd.raw 1).R e w base ok v rows → i < rows.length →
  Calls P F #[v, .int .i64 i, .int .i64 ((i : Int) + 1)] w fun r w' => ∃ v1, r = .returned v1 ∧ (Kd.raw 1).R e w' base ok v1 (rows.take i ++ rows.drop (i + 1)) ∧ w.grownBy w' v.ownBlock ∧ v1.ownBlock = v.ownBlock
def Puts (P : Program) (F e by_ : Nat) : Prop := ∀ (base : Nat) (ok : Nat → Prop) (v : Value) (rows : List (List Value)) (i vb : Nat) (u : Value) (w : World), (Kd.raw 1).R e w base ok v rows → i ≤ rows.length → w.heap[vb]? = some (.cells #[u] e (0, 0)) →
  some vb ≠ v.ownBlock → u.oneCell' = true → base ≤ w.heap.size → (rows.length + 1) * by_ ≤ 140737488355328 → (∀ k, w.heap.size ≤ k → ok k) →
  Calls P F #[v, .int .i64 i, .slice (some ⟨vb, 0, none⟩) 1 1] w fun r w' => ∃ v1, r = .returned v1 ∧ (Kd.raw 1).R e w' base ok v1 (rows.take i ++ [u] :: rows.drop i) ∧ w.grownBy w' v.ownBlock ∧ (v1.ownBlock = v.ownBlock ∨ ∃ b, v1.ownBlock = some b ∧ w.heap.size ≤ b)
section
variable {α : Type} {d : Kd α} {enc : α → Value} {h1 : ∀ x, (enc x).oneCell' = true} {e base : Nat} {ok : Nat → Prop} {w : World} {v : Value} {xs : List α} {P : Program} {F by_ i : Nat}
theorem scalar_raw (h : (Kd.scalar enc h1).R e w base ok v xs) : (Kd.raw 1).R e w base ok v (xs.map fun x => [enc x]) := by
  obtain ⟨hok, inner, ho, hl, hr⟩ := h
  refine ⟨hok, inner, by rw [List.length_map]; exact ho, by rw [List.length_map]; exact hl, fun j p hj => ?_⟩
  rw [List.getElem?_map, Option.map_eq_some_iff] at hj
  obtain ⟨x, hx, rfl⟩ := hj
  have this : (inner.drop (j * (Kd.raw 1).sz)).take (Kd.raw 1).sz = [enc x] := hr j x hx
  refine ⟨this, ?_, fun u hu => ?_⟩
  · rw [this]; rfl
  rw [this] at hu
  rw [List.mem_singleton.1 hu]
  exact h1 x
theorem raw_scalar (h : (Kd.raw 1).R e w base ok v (xs.map fun x => [enc x])) : (Kd.scalar enc h1).R e w base ok v xs := by
  obtain ⟨hok, inner, ho, hl, hr⟩ := h
  rw [List.length_map] at ho hl
  refine ⟨hok, inner, ho, hl, fun j p hj => ?_⟩
  exact (hr j [enc p] (by rw [List.getElem?_map, hj]; rfl)).1
theorem cut_scalar (hc : Cuts P F e) (h : (Kd.scalar enc h1).R e w base ok v xs) (hi : i < xs.length) :
    Calls P F #[v, .int .i64 i, .int .i64 ((i : Int) + 1)] w fun r w' => ∃ v1, r = .returned v1 ∧ (Kd.scalar enc h1).R e w' base ok v1 (xs.take i ++ xs.drop (i + 1)) ∧ w.grownBy w' v.ownBlock ∧ v1.ownBlock = v.ownBlock := by
  refine (hc base ok v _ i w (scalar_raw h) (by rw [List.length_map]; exact hi)).mono ?_
  rintro r w' ⟨v1, rfl, hR, hg, hb⟩
  refine ⟨v1, rfl, raw_scalar ?_, hg, hb⟩
  rw [List.map_append, List.map_take, List.map_drop]
  exact hR
theorem put_scalar {vb : Nat} {x : α} (hc : Puts P F e by_) (h : (Kd.scalar enc h1).R e w base ok v xs) (hi : i ≤ xs.length) (hv : w.heap[vb]? = some (.cells #[enc x] e (0, 0))) (hne : some vb ≠ v.ownBlock) (hb : base ≤ w.heap.size)
    (hl : (xs.length + 1) * by_ ≤ 140737488355328) (hf : ∀ k, w.heap.size ≤ k → ok k) :
    Calls P F #[v, .int .i64 i, .slice (some ⟨vb, 0, none⟩) 1 1] w fun r w' => ∃ v1, r = .returned v1 ∧ (Kd.scalar enc h1).R e w' base ok v1 (xs.take i ++ x :: xs.drop i) ∧ w.grownBy w' v.ownBlock ∧ (v1.ownBlock = v.ownBlock ∨ ∃ b, v1.ownBlock = some b ∧ w.heap.size ≤ b) := by
  refine (hc base ok v _ i vb _ w (scalar_raw h) (by rw [List.length_map]; exact hi) hv hne (h1 x) hb (by rw [List.length_map]; exact hl) hf).mono ?_
  rintro r w' ⟨v1, rfl, hR, hg, hb⟩
  refine ⟨v1, rfl, raw_scalar ?_, hg, hb⟩
  rw [List.map_append, List.map_cons, List.map_take, List.map_drop]
  exact hR
theorem pair_cut {Q : α → List Value → Prop} {rows : List (List Value)} (hl : rows.length = xs.length) (hi : i < xs.length) (hf : ∀ (j : Nat) (x : α) (c : List Value), xs[j]? = some x → rows[j]? = some c → Q x c) :
    (rows.take i ++ rows.drop (i + 1)).length = (xs.take i ++ xs.drop (i + 1)).length ∧ ∀ (j : Nat) (x : α) (c : List Value), (xs.take i ++ xs.drop (i + 1))[j]? = some x → (rows.take i ++ rows.drop (i + 1))[j]? = some c → Q x c := by
  refine ⟨by simp [hl], fun j x c hx hc => ?_⟩
  have lx : (xs.take i).length = i := by rw [List.length_take]; omega
  have lr : (rows.take i).length = i := by rw [List.length_take]; omega
  by_cases hj : j < i
  · rw [List.getElem?_append_left (by omega), List.getElem?_take, if_pos hj] at hx hc
    exact hf j x c hx hc
  rw [List.getElem?_append_right (by omega), List.getElem?_drop] at hx hc
  rw [lx] at hx
  rw [lr] at hc
  exact hf _ x c hx hc
theorem pair_put {Q : α → List Value → Prop} {rows : List (List Value)} {x0 : α} {c0 : List Value} (hl : rows.length = xs.length) (hi : i ≤ xs.length) (hf : ∀ (j : Nat) (x : α) (c : List Value), xs[j]? = some x → rows[j]? = some c → Q x c) (h0 : Q x0 c0) :
    (rows.take i ++ c0 :: rows.drop i).length = (xs.take i ++ x0 :: xs.drop i).length ∧ ∀ (j : Nat) (x : α) (c : List Value), (xs.take i ++ x0 :: xs.drop i)[j]? = some x → (rows.take i ++ c0 :: rows.drop i)[j]? = some c → Q x c := by
  refine ⟨by simp [hl], fun j x c hx hc => ?_⟩
  have lx : (xs.take i).length = i := by rw [List.length_take]; omega
  have lr : (rows.take i).length = i := by rw [List.length_take]; omega
  by_cases hj : j < i
  · rw [List.getElem?_append_left (by omega), List.getElem?_take, if_pos hj] at hx hc
    exact hf j x c hx hc
  rw [List.getElem?_append_right (by omega)] at hx hc
  rw [lx] at hx
  rw [lr] at hc
  cases hq : j - i with
  | zero =>
    rw [hq] at hx hc
    simp only [List.getElem?_cons_zero, Option.some.injEq] at hx hc
    rw [← hx, ← hc]
    exact h0
  | succ q =>
    rw [hq] at hx hc
    simp only [List.getElem?_cons_succ, List.getElem?_drop] at hx hc
    exact hf _ x c hx hc
theorem cut_N (hc : Cuts P F e) (hs : d.sz = 1) (h : Kd.N d e w base ok v xs) (hi : i < xs.length) :
    Calls P F #[v, .int .i64 i, .int .i64 ((i : Int) + 1)] w fun r w' => ∃ v1, r = .returned v1 ∧ Kd.N d e w' base ok v1 (xs.take i ++ xs.drop (i + 1)) ∧ w.grownBy w' v.ownBlock ∧ v1.ownBlock = v.ownBlock := by
  obtain ⟨h0, rows, hl, hR, hf⟩ := Kd.N_bound h
  rw [hs] at hR
  refine (hc base _ v rows i w hR (by omega)).mono ?_
  rintro r w' ⟨v1, rfl, hR', hg, hb⟩
  obtain ⟨hl', hf'⟩ := pair_cut hl hi hf
  refine ⟨v1, rfl, ⟨fun k hk => (h0 k (by rw [← hb]; exact hk)).1, _, hl', by rw [hs, hb]; exact hR', fun j x c hx hcc => ?_⟩, hg, hb⟩
  have := hf' j x c hx hcc
  rw [hb]
  exact Kd.FK_mono (Kd.FK_step this (fun k hk hlt => hg.block k hlt hk.2)) (fun k hk => ⟨hk.1.1, hk.2⟩)
theorem put_N {vb : Nat} {x : α} {u : Value} (hc : Puts P F e by_) (hs : d.sz = 1) (h : Kd.N d e w base ok v xs) (hi : i ≤ xs.length) (hv : w.heap[vb]? = some (.cells #[u] e (0, 0))) (hne : some vb ≠ v.ownBlock) (hu : Kd.FK d w (fun k => ok k ∧ some k ≠ v.ownBlock) x [u]) (hb : base ≤ w.heap.size)
    (hl : (xs.length + 1) * by_ ≤ 140737488355328) (hf : ∀ k, w.heap.size ≤ k → ok k) :
    Calls P F #[v, .int .i64 i, .slice (some ⟨vb, 0, none⟩) 1 1] w fun r w' => ∃ v1, r = .returned v1 ∧ Kd.N d e w' base ok v1 (xs.take i ++ x :: xs.drop i) ∧ w.grownBy w' v.ownBlock ∧ (v1.ownBlock = v.ownBlock ∨ ∃ b, v1.ownBlock = some b ∧ w.heap.size ≤ b) := by
  have hown := h.1
  obtain ⟨h0, rows, hl0, hR, hfr⟩ := Kd.N_bound h
  rw [hs] at hR
  have hu1 : u.oneCell' = true := d.K_one (Kd.FK_now hu) u (List.mem_singleton.2 rfl)
  have hR2 : (Kd.raw 1).R e w base ok v rows := Kd.R_mono hR (fun k hk => hown k hk.symm)
  refine (hc base ok v rows i vb u w hR2 (by omega) hv hne hu1 hb (by rw [hl0]; exact hl) hf).mono ?_
  rintro r w' ⟨v1, rfl, hR', hg, hat⟩
  have hfr' : ∀ (j : Nat) (y : α) (c : List Value), xs[j]? = some y → rows[j]? = some c → Kd.FK d w (fun k => (ok k ∧ k < w.heap.size) ∧ some k ≠ v.ownBlock) y c := hfr
  obtain ⟨hl', hf'⟩ := pair_put (x0 := x) (c0 := [u]) hl0 hi hfr' (Kd.FK_mono (Kd.FK_bound hu) (fun k hk => ⟨⟨hk.1.1, hk.2⟩, hk.1.2⟩))
  refine ⟨v1, rfl, ⟨hR'.1, _, hl', by rw [hs]; exact Kd.raw_tight hR', fun j y c hx hcc => ?_⟩, hg, hat⟩
  refine Kd.FK_mono (Kd.FK_step (hf' j y c hx hcc) (fun k hk hlt => hg.block k hlt hk.2)) (fun k hk => ⟨hk.1.1, ?_⟩)
  rcases hat with hat | ⟨b, hb1, hb2⟩
  · rw [hat]; exact hk.2
  rw [hb1]
  intro he
  injection he with he
  have := hk.1.2
  omega
theorem set_N {g n cap : Nat} {x : α} {u : Value} (hs : d.sz = 1) (h : Kd.N d e w base ok (.slice (some ⟨g, 0, none⟩) n cap) xs) (hi : i < xs.length) (hu : Kd.FK d w (fun k => ok k ∧ k ≠ g) x [u]) :
    (∃ old, w.cell? ⟨g, i, none⟩ = some old) ∧ w.frozen? ⟨g, i, none⟩ = false ∧ Kd.N d e (w.setCell ⟨g, i, none⟩ u) base ok (.slice (some ⟨g, 0, none⟩) n cap) (xs.take i ++ x :: xs.drop (i + 1)) := by
  have hn : n = xs.length := (Kd.N_reads' h).1
  subst hn
  have hown := h.1
  have hfar := Kd.N_bound h
  obtain ⟨h0, rows, hl0, hR, hfr⟩ := h
  rw [hs] at hR
  have hu1 : u.oneCell' = true := d.K_one (Kd.FK_now hu) u (List.mem_singleton.2 rfl)
  obtain ⟨cs, rfl, ho, h1⟩ := raw_open hR
  rw [ones_len] at hl0
  have ho2 := ho
  rw [hl0] at ho2
  have hcell := ho2.cellAt i (by omega)
  rw [List.getElem?_eq_getElem (by omega)] at hcell
  refine ⟨⟨_, hcell⟩, ho2.frozenAt i, hown, ones (cs.take i ++ u :: cs.drop (i + 1)), ?_, ?_, fun j y c hx hc => ?_⟩
  · rw [ones_len]; simp; omega
  · rw [hs]
    have hst := ho2.stored i u
    have es : cs.set i u = cs.take i ++ u :: cs.drop (i + 1) := List.set_eq_take_append_cons_drop.trans (by rw [if_pos (by omega)])
    rw [es] at hst
    refine raw_close ?_ (fun z hz => ?_) (fun k hk => hk.symm)
    · have : (cs.take i ++ u :: cs.drop (i + 1)).length = xs.length := by simp; omega
      rw [this]; exact hst.1
    rcases List.mem_append.1 hz with hz | hz
    · exact h1 z (List.mem_of_mem_take hz)
    rcases List.mem_cons.1 hz with rfl | hz
    · exact hu1
    exact h1 z (List.mem_of_mem_drop hz)
  have hg : (Value.slice (some ⟨g, 0, none⟩) xs.length cap).ownBlock = some g := rfl
  have lx : (xs.take i).length = i := by rw [List.length_take]; omega
  have step : ∀ {y : α} {c : List Value}, Kd.FK d w (fun k => ok k ∧ k ≠ g) y c → Kd.FK d (w.setCell ⟨g, i, none⟩ u) (fun k => ok k ∧ some k ≠ (Value.slice (some ⟨g, 0, none⟩) xs.length cap).ownBlock) y c := fun hq =>
    Kd.FK_mono (Kd.FK_step hq (fun k hk hlt => Below.heap_setCell w ⟨g, i, none⟩ u k hk.2)) (fun k hk => ⟨hk.1, fun q => hk.2 (by rw [hg] at q; injection q)⟩)
  have hfr2 : ∀ (j : Nat) (y : α) (c : List Value), xs[j]? = some y → (ones cs)[j]? = some c → Kd.FK d w (fun k => ok k ∧ k ≠ g) y c := fun j y c a b => Kd.FK_mono (hfr j y c a b) (fun k hk => ⟨hk.1, fun q => hk.2 (by rw [hg, q])⟩)
  obtain ⟨v', hv', rfl⟩ := ones_get hc
  have lc : (cs.take i).length = i := by rw [List.length_take]; omega
  by_cases hj : j < i
  · rw [List.getElem?_append_left (by omega), List.getElem?_take, if_pos hj] at hx hv'
    exact step (hfr2 j y _ hx (by unfold ones; rw [List.getElem?_map, hv']; rfl))
  rw [List.getElem?_append_right (by omega)] at hx hv'
  rw [lx] at hx
  rw [lc] at hv'
  cases hq : j - i with
  | zero =>
    rw [hq] at hx hv'
    simp only [List.getElem?_cons_zero, Option.some.injEq] at hx hv'
    rw [← hx, ← hv']
    exact step hu
  | succ q =>
    rw [hq] at hx hv'
    simp only [List.getElem?_cons_succ, List.getElem?_drop] at hx hv'
    exact step (hfr2 _ y _ hx (by unfold ones; rw [List.getElem?_map, hv']; rfl))
theorem FK_row {β : Type} {d' : Kd β} {A : Option Addr} {c : Nat} {l : List β} {e' : Nat} {okv : Nat → Prop} (h : Kd.V d' e' w base okv (.slice A l.length c) l) : Kd.FK (Kd.slice e' d') w okv l [.slice A l.length c] := by
  obtain ⟨_, hlc, _⟩ := Kd.V_at h
  have hF := Kd.V_F h
  exact fun W' hW => ⟨A, c, rfl, hlc, hF W' hW⟩
end
end Go.Proofs.YtdpcgigjlcpofaaX
namespace Go.Proofs.Ytdpcgigjlcpofaa.F
open Go.RowKit Go.Proofs.YtdpcgigjlcpofaaX Go.Proofs.YtdpcgigjlcpofaaW.PrintWords Go.Proofs.YtdpcgigjlcpofaaW.PrintLast Go.Proofs.YtdpcgigjlcpofaaW.PrintMore
attribute [local go_sem] max2_int min2_int max_two min_two max_three min_three max_four min_four   
attribute [local go_sem high] str_geq str_leq str_gtr
set_option linter.unusedVariables false
set_option linter.unusedSimpArgs false
theorem put_mid {w w1 w2 W' : World} {g10 g11 B1 B2 : Nat} {v1 v2 : Value} {l0 : List ByteArray} {l1 : List (List Int)} {P : Nat → Prop} (hw2 : Below w.heap.size w w2) (hb1 : w.heap.size ≤ B1) (hb2 : w.heap.size ≤ B2) (hg : w.heap.size ≤ g11) (hg10 : w.heap.size ≤ g10) (h10 : g10 < B2)
    (hR : Kd.R Kd.string 9 w2 B1 (fun k => B1 ≤ k ∧ k < w1.heap.size) v1 l0) (h1 : g11 < B1 ∨ w1.heap.size ≤ g11) (h12 : w1.heap.size ≤ B2)
    (hN : Kd.N (Kd.slice 3 (Kd.int .i64)) 44 w2 B2 (fun k => (P k ∧ k < w.heap.size) ∨ B2 ≤ k) v2 l1) (h2 : g11 < B2 ∨ w2.heap.size ≤ g11)
    (hk : ∀ k, k < w2.heap.size → k ≠ g11 → W'.heap[k]? = w2.heap[k]?) :
    Kd.R Kd.string 9 W' w.heap.size (fun k => w.heap.size ≤ k) v1 l0 ∧ Kd.N (Kd.slice 3 (Kd.int .i64)) 44 W' w.heap.size (fun k => (((P k ∧ k < w.heap.size) ∨ w.heap.size ≤ k) ∧ k ≠ g11 ∧ k ≠ g10) ∧ some k ≠ v1.ownBlock) v2 l1 := by
  refine ⟨Kd.R_lower (Kd.R_mono (Kd.R_step hR (fun k ho hlt => hk k hlt (by omega))) (fun k hk => by omega)) hb1, ?_⟩
  have ho := hR.1
  refine Kd.N_lower (Kd.N_mono (Kd.N_step (Kd.N_bound hN) (fun k ho hlt => hk k hlt (by omega))) (fun k hk => ⟨⟨?_, by omega, by omega⟩, fun e => ?_⟩)) hb2
  · rcases hk.1 with h | h
    · exact .inl h
    exact .inr (by omega)
  have := ho k e.symm
  omega
theorem below_grown_ {w W W1 : World} {row : Option Nat} (h : Below w.heap.size w W) (hg : W.grownBy W1 row) (hr : ∀ k, row = some k → w.heap.size ≤ k) : Below w.heap.size w W1 :=
  ⟨hg.os.trans h.os, hg.tape.trans h.tape, hg.output.trans h.output, Nat.le_trans h.size hg.size, fun k hk => (hg.block k (Nat.lt_of_lt_of_le hk h.size) (fun e => by have := hr k e.symm; omega)).trans (h.block k hk)⟩
theorem put_keys {w W' X : World} {v1 : Value} {l0 : List ByteArray} {a3 : ByteArray} {n vb : Nat} (hw : Below w.heap.size w W') (hX : Below W'.heap.size W' X) (hR : Kd.R Kd.string 9 W' w.heap.size (fun k => w.heap.size ≤ k) v1 l0) (hi : n ≤ l0.length) (hl : l0.length + 1 < 1000000)
    (hv : X.heap[vb]? = some (.cells #[.string a3] 9 (0, 0))) (hb : W'.heap.size ≤ vb) :
    Calls Try.prog 140 #[v1, .int .i64 n, .slice (some ⟨vb, 0, none⟩) 1 1] X fun r X' => ∃ v3, r = .returned v3 ∧ Kd.R Kd.string 9 X' w.heap.size (fun k => w.heap.size ≤ k) v3 (l0.take n ++ a3 :: l0.drop n) ∧ X.grownBy X' v1.ownBlock ∧ (v3.ownBlock = v1.ownBlock ∨ ∃ b, v3.ownBlock = some b ∧ X.heap.size ≤ b) := by
  have h1 := hw.size
  have h2 := hX.size
  refine put_scalar (enc := Value.string) (h1 := fun _ => rfl) (by_ := 16) slices_Insert_string_string.own (Kd.R_below hR hX) hi hv (fun e => ?_) (by omega) (by omega) (fun k hk => by omega)
  have := Kd.R_lt hR vb e.symm
  omega
theorem put_ids {w Y : World} {v2 v3 : Value} {l1 : List (List Int)} {l4 : List Int} {A4 : Option Addr} {c4 n vb g10 g11 : Nat} {P P4 : Nat → Prop} (hw : Below w.heap.size w Y)
    (hN : Kd.N (Kd.slice 3 (Kd.int .i64)) 44 Y w.heap.size (fun k => ((((P k ∧ k < w.heap.size) ∨ (P4 k ∧ k < w.heap.size)) ∨ w.heap.size ≤ k) ∧ k ≠ g11 ∧ k ≠ g10) ∧ some k ≠ v3.ownBlock) v2 l1)
    (hV : Kd.V (Kd.int .i64) 3 w w.heap.size (fun k => P4 k ∧ k < w.heap.size) (.slice A4 l4.length c4) l4) (h3 : ∀ k, v3.ownBlock = some k → w.heap.size ≤ k ∧ k < Y.heap.size) (h11 : w.heap.size ≤ g11 ∧ g11 < Y.heap.size) (h10 : w.heap.size ≤ g10 ∧ g10 < Y.heap.size) (hi : n ≤ l1.length) (hl : l1.length + 1 < 1000000)
    (hv : Y.heap[vb]? = some (.cells #[.slice A4 l4.length c4] 44 (0, 0))) (hne : some vb ≠ v2.ownBlock) :
    Calls Try.prog 141 #[v2, .int .i64 n, .slice (some ⟨vb, 0, none⟩) 1 1] Y fun r Y' => ∃ v4, r = .returned v4 ∧ Kd.N (Kd.slice 3 (Kd.int .i64)) 44 Y' w.heap.size (fun k => ((((P k ∧ k < w.heap.size) ∨ (P4 k ∧ k < w.heap.size)) ∨ w.heap.size ≤ k) ∧ k ≠ g11 ∧ k ≠ g10) ∧ some k ≠ v3.ownBlock) v4 (l1.take n ++ l4 :: l1.drop n) ∧ Y.grownBy Y' v2.ownBlock ∧ (v4.ownBlock = v2.ownBlock ∨ ∃ b, v4.ownBlock = some b ∧ Y.heap.size ≤ b) := by
  have hs := hw.size
  refine put_N (by_ := 24) slices_Insert_int_int.own rfl hN hi hv hne (Kd.FK_mono (FK_row (Kd.V_below hV hw)) (fun k hk => ⟨⟨⟨.inl (.inr hk), by omega, by omega⟩, fun e => ?_⟩, fun e => ?_⟩)) hs (by omega) (fun k hk => ⟨⟨.inr (by omega), by omega, by omega⟩, fun e => ?_⟩)
  · have := h3 k e.symm
    omega
  · have := Kd.N_base hN k e.symm
    omega
  have := h3 k e.symm
  omega
def index_put.f (l0_0 : List ByteArray) (l0_1 : List (List Int)) (a1 : Int) (a2 : Bool) (a3 : ByteArray) (l4 : List Int) : Option (List ByteArray × List (List Int)) :=
  if l0_0.length + 1 < 1000000 ∧ l0_1.length + 1 < 1000000 ∧ 0 ≤ a1 then
    (if a2 = true ∧ l4 = [] then (if a1 < l0_0.length ∧ a1 < l0_1.length then some (l0_0.take a1.toNat ++ l0_0.drop (a1.toNat + 1), l0_1.take a1.toNat ++ l0_1.drop (a1.toNat + 1)) else none)
    else if a2 = true then (if a1 < l0_1.length then some (l0_0, l0_1.take a1.toNat ++ l4 :: l0_1.drop (a1.toNat + 1)) else none)
    else (if a1 ≤ l0_0.length ∧ a1 ≤ l0_1.length then some (l0_0.take a1.toNat ++ a3 :: l0_0.drop a1.toNat, l0_1.take a1.toNat ++ l4 :: l0_1.drop a1.toNat) else none))
  else none
set_option maxHeartbeats 8000000 in
set_option maxRecDepth 100000 in
theorem index_put.calls (A0_0 : Option Addr) (c0_0 : Nat) (l0_0 : List ByteArray) (P0_1_ : Nat → Prop) (A0_1 : Option Addr) (c0_1 : Nat) (l0_1 : List (List Int)) (a1 : Int) (a2 : Bool) (a3 : ByteArray) (P4_ : Nat → Prop) (A4 : Option Addr) (c4 : Nat) (l4 : List Int) (r1 : List ByteArray) (r2 : List (List Int)) (w : World)
    (hr0_0 : Kd.C Kd.string w A0_0 l0_0.length l0_0) (hc0_0 : l0_0.length ≤ c0_0) (hs0_1 : Kd.V (Kd.slice 3 (Kd.int .i64)) 44 w w.heap.size (fun k_ => P0_1_ k_) (.slice A0_1 l0_1.length c0_1) l0_1) (hs4 : Kd.V (Kd.int .i64) 3 w w.heap.size (fun k_ => P4_ k_) (.slice A4 l4.length c4) l4)
    (h : index_put.f l0_0 l0_1 a1 a2 a3 l4 = some (r1, r2)) :
    Calls Try.prog 90 #[.agg #[.slice A0_0 l0_0.length c0_0, .slice A0_1 l0_1.length c0_1], .int .i64 a1, .bool a2, .string a3, .slice A4 l4.length c4] w fun e w' => ∃ v0_ v1_ : Value, e = .returned (.agg #[v0_, v1_]) ∧ Kd.R Kd.string 9 w' w.heap.size (fun k_ => (w.heap.size ≤ k_)) v0_ r1 ∧ Kd.N (Kd.slice 3 (Kd.int .i64)) 44 w' w.heap.size (fun k_ => ((P0_1_ k_ ∨ P4_ k_) ∨ w.heap.size ≤ k_) ∧ some k_ ≠ (v0_ : Value).ownBlock) v1_ r2 ∧ Below w.heap.size w w' := by
  have hu51 := Try.underlying51
  unfold index_put.f at h
  by_cases hn : ¬ (l0_0.length + 1 < 1000000 ∧ l0_1.length + 1 < 1000000 ∧ 0 ≤ a1)
  · rw [if_neg hn] at h; cases h
  have hh := Classical.not_not.1 hn
  rw [if_pos hh] at h
  have HA : Aside0 (∀ W, Below w.heap.size w W → Calls Try.prog 136 #[.slice A0_0 l0_0.length c0_0] W fun e w' => ∃ v0_ : Value, e = .returned v0_ ∧ Kd.R Kd.string 9 w' W.heap.size (fun _ => True) v0_ l0_0 ∧ Below W.heap.size W w') :=
    ⟨fun W hW => slices_Clone_string_string.calls A0_0 c0_0 l0_0 l0_0 W (Kd.C_below hr0_0 hW) hc0_0 (by unfold slices_Clone_string_string.f; rw [if_pos (by omega)])⟩
  have HV : Aside0 (∀ W, Below w.heap.size w W → Calls Try.prog 137 #[.slice A0_1 l0_1.length c0_1] W fun e w' => ∃ v0_ : Value, e = .returned v0_ ∧ Kd.N (Kd.slice 3 (Kd.int .i64)) 44 w' W.heap.size (fun k_ => ((P0_1_ k_ ∧ k_ < w.heap.size) ∨ W.heap.size ≤ k_)) v0_ l0_1 ∧ Below W.heap.size W w') :=
    ⟨fun W hW => slices_Clone_int_int_137.calls (fun k_ => P0_1_ k_ ∧ k_ < w.heap.size) A0_1 c0_1 l0_1 l0_1 W (Kd.V_below (Kd.V_bound hs0_1) hW) (by unfold slices_Clone_int_int_137.f; rw [if_pos (by omega)])⟩
  have HS := zA hs4
  have HH := zA hh
  have H := zA h
  clear hr0_0 hs0_1 hs4 hh h hn
  go_enter Try.func90, Try.ntmps90
  go_wp2_with fail
  obtain ⟨g5, hg5⟩ : ∃ g5, g5 = w.heap.size := ⟨_, rfl⟩
  obtain ⟨g10, hg10⟩ : ∃ g10, g10 = w.heap.size + 1 := ⟨_, rfl⟩
  obtain ⟨W, hW⟩ : ∃ W, W = ((w.alloc (Obj.cells #[Value.slice A0_0 l0_0.length c0_0, Value.slice A0_1 l0_1.length c0_1] 51)).alloc (Obj.cells #[Value.slice none 0 0, Value.slice none 0 0] 51)) := ⟨_, rfl⟩
  have B5 : Aside0 (W.heap[g5]? = some (.cells #[.slice A0_0 l0_0.length c0_0, .slice A0_1 l0_1.length c0_1] 51 (0, 0))) := ⟨by rw [hW, hg5, heap_alloc_old _ _ (by simp), heap_alloc_new]⟩
  have B10 : Aside0 (W.heap[g10]? = some (.cells #[.slice none 0 0, .slice none 0 0] 51 (0, 0))) := ⟨by rw [hW, hg10]; have := heap_alloc_new (w.alloc (Obj.cells #[Value.slice A0_0 l0_0.length c0_0, Value.slice A0_1 l0_1.length c0_1] 51)) (Obj.cells #[Value.slice none 0 0, Value.slice none 0 0] 51); simpa using this⟩
  have HB : Aside0 (Below w.heap.size w W) := ⟨by rw [hW]; exact zD (zD (Below.refl _ _) _) _⟩
  have hs : W.heap.size = w.heap.size + 2 := by rw [hW]; simp
  have GS : Aside0 (w.heap.size ≤ g5 ∧ w.heap.size ≤ g10 ∧ g5 < W.heap.size ∧ g10 < W.heap.size) := ⟨by omega⟩
  rw [← hW, ← hg10, ← hg5]
  clear hW hg5 hg10 hs
  have c50 : W.drew.cell? ⟨g5, 0, none⟩ = some (.slice A0_0 l0_0.length c0_0) := by show W.cell? _ = _; simp [World.cell?, B5.out]
  have c51 : W.drew.cell? ⟨g5, 1, none⟩ = some (.slice A0_1 l0_1.length c0_1) := by show W.cell? _ = _; simp [World.cell?, B5.out]
  have c50a : ∀ o, (W.alloc o).cell? ⟨g5, 0, none⟩ = some (.slice A0_0 l0_0.length c0_0) := fun o => zF (zZ B5.out o) 0
  have c51a : ∀ o, (W.alloc o).cell? ⟨g5, 1, none⟩ = some (.slice A0_1 l0_1.length c0_1) := fun o => zF (zZ B5.out o) 1
  have HVS := zA (Kd.V_bound HS.out)
  obtain ⟨K1, hQ1⟩ : ∃ K1 : Act → World → Prop, K1 = fun a W' => ∃ (g11 : Nat) (A1 A2 : Option Addr) (k1 k2 : Nat), a = { tmps := #[Value.agg #[Value.slice A0_0 l0_0.length c0_0, Value.slice A0_1 l0_1.length c0_1], Value.int IntKind.i64 a1, Value.bool a2, Value.string a3, Value.slice A4 l4.length c4, Value.pointer (some ⟨g5, 0, none⟩), undef, undef, undef, undef, Value.pointer (some ⟨g10, 0, none⟩), Value.pointer (some ⟨g11, 0, none⟩), Value.pointer (some ⟨g5, 0, none⟩), Value.slice A0_0 l0_0.length c0_0, Value.slice A1 l0_0.length k1, Value.pointer (some ⟨g5, 1, none⟩), Value.slice A0_1 l0_1.length c0_1, Value.slice A2 l0_1.length k2, Value.agg #[Value.slice A1 l0_0.length k1, Value.slice A2 l0_1.length k2], undef, undef, undef, undef, undef, undef, undef, undef, undef, undef, undef, undef, undef, undef, undef, undef, undef, undef, undef, undef, undef, undef, undef, undef, undef, undef, undef, undef, undef, undef, undef, undef, undef, undef, undef, undef, undef, undef, undef, undef, undef, undef, undef], defers := [] } ∧ W'.heap[g11]? = some (.cells #[.slice A1 l0_0.length k1, .slice A2 l0_1.length k2] 51 (0, 0)) ∧ W'.heap[g10]? = some (.cells #[.slice none 0 0, .slice none 0 0] 51 (0, 0)) ∧ g10 ≠ g11 ∧ w.heap.size ≤ g11 ∧ Below w.heap.size w W' ∧ Kd.R Kd.string 9 W' w.heap.size (fun k => w.heap.size ≤ k) (.slice A1 l0_0.length k1) l0_0 ∧ Kd.N (Kd.slice 3 (Kd.int .i64)) 44 W' w.heap.size (fun k => (((P0_1_ k ∧ k < w.heap.size) ∨ w.heap.size ≤ k) ∧ k ≠ g11 ∧ k ≠ g10) ∧ some k ≠ (Value.slice A1 l0_0.length k1).ownBlock) (.slice A2 l0_1.length k2) l0_1 := ⟨_, rfl⟩
  refine Code.wp_mono (Q := Exit.then K1 ?Q0) ?h1 ?h2
  case h1 =>
    intro e a W' h; cases e with
    | normal =>
      rw [show Exit.then K1 _ Exit.normal a W' = K1 a W' from rfl, hQ1] at h; obtain ⟨g11, A1, A2, k1, k2, rfl, N11, N10, ne, hg11, hB', hR', hN'⟩ := h; have BK11 := zA N11; have BK10 := zA N10; have NE := zA ne; have GG := zA hg11; have G10 : Aside0 (w.heap.size ≤ g10) := ⟨GS.out.2.1⟩
      have HB' := zA hB'; have HR' := zA hR'; have HN' := zA hN'; clear N11 N10 ne hg11 hB' hR' hN' hQ1 c50 c51 c50a c51a; have HC1 : Aside0 (Cuts Try.prog 138 9) := ⟨slices_Delete_string_string.own⟩
      have HC2 : Aside0 (Cuts Try.prog 139 44) := ⟨slices_Delete_int_int.own⟩
      obtain ⟨n, rfl⟩ := Int.eq_ofNat_of_zero_le HH.out.2.2; have H2 := H.out; simp only [Int.toNat_natCast] at H2; by_cases c1 : a2 = true ∧ l4 = []
      · rw [if_pos c1] at H2
        by_cases c2 : ((n : Int) < l0_0.length ∧ (n : Int) < l0_1.length)
        case neg => rw [if_neg c2] at H2; cases H2
        rw [if_pos c2] at H2; simp only [zNq, zOq] at H2; obtain ⟨rfl, rfl⟩ := H2; obtain ⟨rfl, rfl⟩ := c1; have i1 : Aside0 (n < l0_0.length) := ⟨by omega⟩
        have i2 : Aside0 (n < l0_1.length) := ⟨by omega⟩
        have hw1 : IntKind.i64.wrap ((n : Int) + 1) = (n : Int) + 1 := by rw [IntKind.wrap_i64]; have := HH.out.1; omega
        clear c2; go_wp2_with fail; have d0 : W'.drew.cell? ⟨g11, 0, none⟩ = some (.slice A1 l0_0.length k1) := zF (zAq BK11.out) 0; have d1 : W'.drew.cell? ⟨g11, 1, none⟩ = some (.slice A2 l0_1.length k2) := zF (zAq BK11.out) 1; have NK1 : Aside0 (some g11 ≠ (Value.slice A1 l0_0.length k1).ownBlock ∧ some g10 ≠ (Value.slice A1 l0_0.length k1).ownBlock) := ⟨⟨Kd.R_ne HR'.out BK11.out (by decide), Kd.R_ne HR'.out BK10.out (by decide)⟩⟩
        have NK2 : Aside0 (some g11 ≠ (Value.slice A2 l0_1.length k2).ownBlock ∧ some g10 ≠ (Value.slice A2 l0_1.length k2).ownBlock) := ⟨⟨Kd.N_ne HN'.out BK11.out (by decide), Kd.N_ne HN'.out BK10.out (by decide)⟩⟩
        go_region_law (first
          | (go_simp; go_at_call 138; refine (cut_scalar (enc := Value.string) (h1 := fun _ => rfl) HC1.out (by (with_reducible repeat (first | apply Kd.R_drewN | apply Kd.R_drew | apply Kd.R_alloc)); exact HR'.out) i1.out).mono ?_; rintro e w3 ⟨v3, rfl, hr3, hg3, hb3⟩; obtain ⟨A3, m3, k3, rfl⟩ := (Kd.R_slice hr3).elim (fun A h => h.elim (fun c h => (⟨A, _, c, h⟩ : ∃ A m c, v3 = Value.slice A m c))); have BK113 := zA (blk_grown (zAq BK11.out) hg3 NK1.out.1); have BK103 := zA (blk_grown (zAq BK10.out) hg3 NK1.out.2); have HN3 := zA (Kd.N_after (Kd.N_drew HN'.out) hg3 (.inl hb3)); have HB3 := zA (below_grown_ (below_drew HB'.out) hg3 (fun k hk => Kd.R_base HR'.out k hk)); have HR3 := zA hr3; have HG3 := zA hg3; have HE3 := zA hb3; have d1' : w3.cell? ⟨g11, 1, none⟩ = some (.slice A2 l0_1.length k2) := zF BK113.out 1; clear hr3 hg3 hb3)
          | (go_simp; go_at_call 139; refine (cut_N HC2.out rfl (by (with_reducible repeat (first | apply Kd.N_drewN | apply Kd.N_drew | apply Kd.N_alloc)); exact HN3.out) i2.out).mono ?_; rintro e w4 ⟨v4, rfl, hn4, hg4, hb4⟩; obtain ⟨A4', m4, k4, rfl⟩ := (Kd.N_slice hn4).elim (fun A h => h.elim (fun c h => (⟨A, _, c, h⟩ : ∃ A m c, v4 = Value.slice A m c))); have BK114 := zA (blk_grown BK113.out hg4 NK2.out.1); have BK104 := zA (blk_grown BK103.out hg4 NK2.out.2); have HR4 := zA (Kd.R_grown2 HR3.out rfl hg4 (fun k hk => (HN3.out.1 k hk).2)); have HB4 := zA (below_grown_ HB3.out hg4 (fun k hk => Kd.N_base HN3.out k hk)); have HN4 := zA hn4; have HG4 := zA hg4; have HE4 := zA hb4; have e0 : w4.cell? ⟨g11, 0, none⟩ = some (.slice A1 l0_0.length k1) := zF BK114.out 0; have e1 : w4.cell? ⟨g11, 1, none⟩ = some (.slice A2 l0_1.length k2) := zF BK114.out 1; have e2 := zG BK114.out 0; have e3 := zG BK114.out 1; clear hn4 hg4 hb4))
        all_goals
          obtain ⟨W5, hW5⟩ : ∃ W5, W5 = ((w4.setCell ⟨g11, 0, none⟩ (.slice A3 m3 k3)).setCell ⟨g11, 1, none⟩ (.slice A4' m4 k4)) := ⟨_, rfl⟩
          have B11 : Aside0 (W5.heap[g11]? = some (.cells #[.slice A3 m3 k3, .slice A4' m4 k4] 51 (0, 0))) := ⟨by rw [hW5]; exact blk_put (blk_put BK114.out 0 _ rfl) 1 _ rfl⟩
          have B10' : Aside0 (W5.heap[g10]? = some (.cells #[.slice none 0 0, .slice none 0 0] 51 (0, 0))) := ⟨by rw [hW5]; exact blk_far (blk_far BK104.out (p := ⟨g11, 0, none⟩) NE.out _) NE.out _⟩
          have HB5 : Aside0 (Below w.heap.size w W5) := ⟨by rw [hW5]; exact zE (zE HB4.out GG.out) GG.out⟩
          have HR5 := zA (show Kd.R Kd.string 9 W5 w.heap.size (fun k => w.heap.size ≤ k) (.slice A3 m3 k3) _ from by rw [hW5]; exact Kd.R_set (Kd.R_set HR4.out BK114.out (by decide) 0 _) (blk_put BK114.out 0 _ rfl) (by decide) 1 _); have HN5 := zA (show Kd.N (Kd.slice 3 (Kd.int .i64)) 44 W5 w.heap.size (fun k => (((P0_1_ k ∧ k < w.heap.size) ∨ w.heap.size ≤ k) ∧ k ≠ g11 ∧ k ≠ g10) ∧ some k ≠ (Value.slice A3 m3 k3).ownBlock) (.slice A4' m4 k4) _ from by rw [hW5]; exact Kd.N_far (p := ⟨g11, 1, none⟩) (Kd.N_far (p := ⟨g11, 0, none⟩) HN4.out (fun k hk => hk.1.2.1) _) (fun k hk => hk.1.2.1) _); rw [← hW5]; clear hW5 e0 e1 e2 e3 d0 d1 d1'; have f0 : W5.cell? ⟨g11, 0, none⟩ = some (.slice A3 m3 k3) := zF B11.out 0; have f1 : W5.cell? ⟨g11, 1, none⟩ = some (.slice A4' m4 k4) := zF B11.out 1; have f2 : W5.cell? ⟨g10, 0, none⟩ = some (.slice none 0 0) := zF B10'.out 0; have f3 : W5.cell? ⟨g10, 1, none⟩ = some (.slice none 0 0) := zF B10'.out 1; have f4 := zG B10'.out 0; have f5 := zG B10'.out 1; go_wp2_with fail; (try simp only [Exit.inBlock, Exit.then])
          refine bodyPost_ret (results_cell_row rfl _ _ g10 51 #[.slice A3 m3 k3, .slice A4' m4 k4] (0, 0) _ rfl (blk_put (blk_put B10'.out 0 _ rfl) 1 _ rfl) Try.underlying51 rfl (by kernel_rfl)) rfl ?_; refine ⟨.slice A3 m3 k3, .slice A4' m4 k4, by first | rfl | (simp; rfl), Kd.R_set (Kd.R_set HR5.out B10'.out (by decide) 0 _) (blk_put B10'.out 0 _ rfl) (by decide) 1 _, ?_, zE (zE HB5.out G10.out) G10.out⟩; exact Kd.N_mono (Kd.N_far (p := ⟨g10, 1, none⟩) (Kd.N_far (p := ⟨g10, 0, none⟩) HN5.out (fun k hk => hk.1.2.2) _) (fun k hk => hk.1.2.2) _) (fun k hk => ⟨hk.1.1.imp (fun h => .inl h.1) id, hk.2⟩)
      rw [if_neg c1] at H2; by_cases c2 : a2 = true
      · subst c2
        rw [if_pos rfl] at H2; have c4' : ¬ l4 = [] := fun e => c1 ⟨rfl, e⟩
        have c5 : ¬ ((l4.length : Int) = 0) := fun e => c4' (List.eq_nil_of_length_eq_zero (by omega))
        by_cases c3 : (n : Int) < l0_1.length
        case neg => rw [if_neg c3] at H2; cases H2
        rw [if_pos c3] at H2; simp only [zNq, zOq] at H2; obtain ⟨rfl, rfl⟩ := H2; obtain ⟨gI, capI, hvI, hgI, _, cellsI, hcI⟩ := Kd.N_form HN'.out (by omega); injection hvI with hA _ hk
        subst hA; subst hk; have hgI1 : gI ≠ g11 ∧ gI ≠ g10 := (HN'.out.1 gI rfl).1.2; have ne11 := hgI1.1; have ne10 := hgI1.2; obtain ⟨⟨old, hold⟩, hfro, hset⟩ := set_N (x := l4) (u := .slice A4 l4.length c4) (i := n) rfl (Kd.N_mono HN'.out (fun k hk => (⟨⟨hk.1.1.imp (fun h => (.inl h : (P0_1_ k ∧ k < w.heap.size) ∨ (P4_ k ∧ k < w.heap.size))) id, hk.1.2⟩, hk.2⟩ : ((((P0_1_ k ∧ k < w.heap.size) ∨ (P4_ k ∧ k < w.heap.size)) ∨ w.heap.size ≤ k) ∧ k ≠ g11 ∧ k ≠ g10) ∧ some k ≠ (Value.slice A1 l0_0.length k1).ownBlock))) (by omega)
          (Kd.FK_mono (FK_row (Kd.V_below HVS.out HB'.out)) (fun k hk => ⟨⟨⟨.inl (.inr hk), by have := GG.out; omega, by have := G10.out; omega⟩, fun e => by have := Kd.R_base HR'.out k e.symm; omega⟩, by omega⟩))
        have HN6 := zA hset; have ne11' : g11 ≠ gI := fun e => ne11 e.symm
        have ne10' : g10 ≠ gI := fun e => ne10 e.symm
        have X11 := zA (blk_far BK11.out (p := ⟨gI, n, none⟩) ne11' (.slice A4 l4.length c4)); have X10 := zA (blk_far BK10.out (p := ⟨gI, n, none⟩) ne10' (.slice A4 l4.length c4)); have HB6 := zA (zE (j := n) (v := .slice A4 l4.length c4) HB'.out hgI); have HR6 := zA (Kd.R_set HR'.out hcI (by decide) n (.slice A4 l4.length c4)); have d1 : W'.cell? ⟨g11, 1, none⟩ = some (.slice (some ⟨gI, 0, none⟩) l0_1.length k2) := zF BK11.out 1; have d2 : (W'.setCell ⟨gI, n, none⟩ (.slice A4 l4.length c4)).cell? ⟨g11, 0, none⟩ = some (.slice A1 l0_0.length k1) := zF X11.out 0; have d3 : (W'.setCell ⟨gI, n, none⟩ (.slice A4 l4.length c4)).cell? ⟨g11, 1, none⟩ = some (.slice (some ⟨gI, 0, none⟩) l0_1.length k2) := zF X11.out 1; have d4 : (W'.setCell ⟨gI, n, none⟩ (.slice A4 l4.length c4)).cell? ⟨g10, 0, none⟩ = some (.slice none 0 0) := zF X10.out 0; have d5 : (W'.setCell ⟨gI, n, none⟩ (.slice A4 l4.length c4)).cell? ⟨g10, 1, none⟩ = some (.slice none 0 0) := zF X10.out 1; have d6 := zG X10.out 0; have d7 := zG X10.out 1; clear hset hcI HN' hgI1; go_wp2_with fail; (try simp only [Exit.inBlock, Exit.then])
        refine bodyPost_ret (results_cell_row rfl _ _ g10 51 #[.slice A1 l0_0.length k1, .slice (some ⟨gI, 0, none⟩) l0_1.length k2] (0, 0) _ rfl (blk_put (blk_put X10.out 0 _ rfl) 1 _ rfl) Try.underlying51 rfl (by kernel_rfl)) rfl ?_; refine ⟨_, _, by first | rfl | (simp; rfl), Kd.R_set (Kd.R_set HR6.out X10.out (by decide) 0 _) (blk_put X10.out 0 _ rfl) (by decide) 1 _, ?_, zE (zE HB6.out G10.out) G10.out⟩; exact Kd.N_mono (Kd.N_far (p := ⟨g10, 1, none⟩) (Kd.N_far (p := ⟨g10, 0, none⟩) HN6.out (fun k hk => hk.1.2.2) _) (fun k hk => hk.1.2.2) _) (fun k hk => ⟨hk.1.1.imp (fun h => h.imp (fun h => h.1) (fun h => h.1)) id, hk.2⟩)
      rw [if_neg c2] at H2; obtain rfl : a2 = false := by simpa using c2
      clear c2 c1; by_cases c3 : ((n : Int) ≤ l0_0.length ∧ (n : Int) ≤ l0_1.length)
      case neg => rw [if_neg c3] at H2; cases H2
      rw [if_pos c3] at H2; simp only [zNq, zOq] at H2; obtain ⟨rfl, rfl⟩ := H2; have i1 : Aside0 (n ≤ l0_0.length) := ⟨by omega⟩
      have i2 : Aside0 (n ≤ l0_1.length) := ⟨by omega⟩
      clear c3; go_wp2_with fail; have d0 : W'.drew.cell? ⟨g11, 0, none⟩ = some (.slice A1 l0_0.length k1) := zF (zAq BK11.out) 0; have d1 : W'.drew.cell? ⟨g11, 1, none⟩ = some (.slice A2 l0_1.length k2) := zF (zAq BK11.out) 1; have d0a : ∀ o, (W'.alloc o).cell? ⟨g11, 0, none⟩ = some (.slice A1 l0_0.length k1) := fun o => zF (zZ BK11.out o) 0
      have d1a : ∀ o, (W'.alloc o).cell? ⟨g11, 1, none⟩ = some (.slice A2 l0_1.length k2) := fun o => zF (zZ BK11.out o) 1
      have d0b : ∀ o o', ((W'.alloc o).alloc o').cell? ⟨g11, 0, none⟩ = some (.slice A1 l0_0.length k1) := fun o o' => zF (zZ (zZ BK11.out o) o') 0
      have d1b : ∀ o o', ((W'.alloc o).alloc o').cell? ⟨g11, 1, none⟩ = some (.slice A2 l0_1.length k2) := fun o o' => zF (zZ (zZ BK11.out o) o') 1
      have Z1 : Aside0 (∀ o, (W'.alloc o).heap[W'.heap.size]? = some o) := ⟨fun o => blk_new W' o⟩
      have Z2 : Aside0 (∀ o o', ((W'.alloc o).alloc o').heap[W'.heap.size]? = some o) := ⟨fun o o' => zZ (blk_new W' o) o'⟩
      have Z3 : Aside0 (∀ o o', ((W'.alloc o).alloc o').heap[W'.heap.size + 1]? = some o') := ⟨fun o o' => by
        have := blk_new (W'.alloc o) o'; rwa [show (W'.alloc o).heap.size = W'.heap.size + 1 by simp] at this⟩
      have NK1 : Aside0 (some g11 ≠ (Value.slice A1 l0_0.length k1).ownBlock ∧ some g10 ≠ (Value.slice A1 l0_0.length k1).ownBlock) := ⟨⟨Kd.R_ne HR'.out BK11.out (by decide), Kd.R_ne HR'.out BK10.out (by decide)⟩⟩
      have NK2 : Aside0 (some g11 ≠ (Value.slice A2 l0_1.length k2).ownBlock ∧ some g10 ≠ (Value.slice A2 l0_1.length k2).ownBlock) := ⟨⟨Kd.N_ne HN'.out BK11.out (by decide), Kd.N_ne HN'.out BK10.out (by decide)⟩⟩
      have NL : Aside0 (∀ k, W'.heap.size ≤ k → some k ≠ (Value.slice A1 l0_0.length k1).ownBlock ∧ some k ≠ (Value.slice A2 l0_1.length k2).ownBlock) := ⟨fun k hk => ⟨fun e => by have := Kd.R_lt HR'.out k e.symm; omega, fun e => by have := Kd.N_lt HN'.out k e.symm; omega⟩⟩
      have HN2 := zA (Kd.N_mono HN'.out (fun k hk => (⟨⟨hk.1.1.imp (fun h => (.inl h : (P0_1_ k ∧ k < w.heap.size) ∨ (P4_ k ∧ k < w.heap.size))) id, hk.1.2⟩, hk.2⟩ : ((((P0_1_ k ∧ k < w.heap.size) ∨ (P4_ k ∧ k < w.heap.size)) ∨ w.heap.size ≤ k) ∧ k ≠ g11 ∧ k ≠ g10) ∧ some k ≠ (Value.slice A1 l0_0.length k1).ownBlock))); have HRl := zA (Below.refl W'.heap.size W'); go_region_law (first
        | (go_simp; go_at_call 140; refine (put_keys (a3 := a3) HB'.out (by (with_reducible repeat (first | apply below_drew | apply zD | apply zB)); exact HRl.out) HR'.out i1.out HH.out.1 (by (with_reducible repeat (first | refine zY ?_ _ | refine zAq ?_)); first | exact Z1.out _ | exact Z2.out _ _ | exact Z3.out _ _) (by first | exact Nat.le_refl _ | exact Nat.le_succ _)).mono ?_; rintro e w3 ⟨v3, rfl, hr3, hg3, hb3⟩
           have BK113 := zA (blk_grown (g := g11) (o := .cells #[.slice A1 l0_0.length k1, .slice A2 l0_1.length k2] 51 (0, 0)) (qW BK11.out) hg3 NK1.out.1); have BK103 := zA (blk_grown (g := g10) (o := .cells #[.slice none 0 0, .slice none 0 0] 51 (0, 0)) (qW BK10.out) hg3 NK1.out.2); have HN3 := zA (Kd.N_after (by (with_reducible repeat (first | apply Kd.N_drewN | apply Kd.N_drew | apply Kd.N_alloc)); exact HN2.out) hg3 hb3); have HB3 := zA (below_grown_ (w := w) (by (with_reducible repeat (first | apply below_drew | apply zD | apply zB)); exact HB'.out) hg3 (fun k hk => Kd.R_base HR'.out k hk)); (first | have BVb := zA (show w3.heap[W'.heap.size + 1]? = some (.cells #[.slice A4 l4.length c4] 44 (0, 0)) from blk_grown (by (with_reducible repeat (first | refine zY ?_ _ | refine zAq ?_)); exact Z3.out _ _) hg3 (NL.out _ (Nat.le_succ _)).1) | have BVc := zA (show w3.heap[W'.heap.size]? = some (.cells #[.slice A4 l4.length c4] 44 (0, 0)) from blk_grown (by (with_reducible repeat (first | refine zY ?_ _ | refine zAq ?_)); exact Z2.out _ _) hg3 (NL.out _ (Nat.le_refl _)).1) | skip)
           obtain ⟨A3, m3, k3, rfl⟩ := (Kd.R_slice hr3).elim (fun A h => h.elim (fun c h => (⟨A, _, c, h⟩ : ∃ A m c, v3 = Value.slice A m c))); have d1' : w3.cell? ⟨g11, 1, none⟩ = some (.slice A2 l0_1.length k2) := zF BK113.out 1; have d1'a : ∀ o, (w3.alloc o).cell? ⟨g11, 1, none⟩ = some (.slice A2 l0_1.length k2) := fun o => zF (zZ BK113.out o) 1
           have HR3 := zA hr3; have HG3 := zA hg3; have HE3 := zA hb3; clear hr3 hg3 hb3)
        | (go_simp; go_at_call 141; refine (put_ids (P := P0_1_) (P4 := P4_) (g10 := g10) (g11 := g11) (v3 := .slice A3 m3 k3) (w := w) (by (with_reducible repeat (first | apply below_drew | apply zD | apply zB)); exact HB3.out) (by (with_reducible repeat (first | apply Kd.N_drewN | apply Kd.N_drew | apply Kd.N_alloc)); exact HN3.out) HVS.out (fun k hk => ⟨Kd.R_base HR3.out k hk, Nat.lt_of_lt_of_le (Kd.R_lt HR3.out k hk) (by first | exact Nat.le_refl _ | (simp; done))⟩) ⟨GG.out, Nat.lt_of_lt_of_le (blk_lt BK113.out) (by first | exact Nat.le_refl _ | (simp; done))⟩ ⟨G10.out, Nat.lt_of_lt_of_le (blk_lt BK103.out) (by first | exact Nat.le_refl _ | (simp; done))⟩ i2.out HH.out.2.1 (by first | (with_reducible exact blk_new _ _) | exact BVb.out | exact BVc.out) (by first | exact (NL.out _ (Nat.le_succ _)).2 | exact (NL.out _ (Nat.le_refl _)).2 | exact fun e => Nat.lt_irrefl _ (Kd.N_lt HN3.out _ e.symm))).mono ?_; rintro e w4 ⟨v4, rfl, hn4, hg4, hb4⟩
           have BK114 := zA (blk_grown (g := g11) (o := .cells #[.slice A1 l0_0.length k1, .slice A2 l0_1.length k2] 51 (0, 0)) (qW BK113.out) hg4 NK2.out.1); have BK104 := zA (blk_grown (g := g10) (o := .cells #[.slice none 0 0, .slice none 0 0] 51 (0, 0)) (qW BK103.out) hg4 NK2.out.2); have HR4 := zA (Kd.R_grown2 (by (with_reducible repeat (first | apply Kd.R_drewN | apply Kd.R_drew | apply Kd.R_alloc)); exact HR3.out) rfl hg4 (fun k hk => (HN3.out.1 k hk).2)); have HB4 := zA (below_grown_ (w := w) (by (with_reducible repeat (first | apply below_drew | apply zD | apply zB)); exact HB3.out) hg4 (fun k hk => Kd.N_base HN3.out k hk)); have HN4 := zA hn4; obtain ⟨A4', m4, k4, rfl⟩ := (Kd.N_slice hn4).elim (fun A h => h.elim (fun c h => (⟨A, _, c, h⟩ : ∃ A m c, v4 = Value.slice A m c))); have e0 : w4.cell? ⟨g11, 0, none⟩ = some (.slice A1 l0_0.length k1) := zF BK114.out 0; have e1 : w4.cell? ⟨g11, 1, none⟩ = some (.slice A2 l0_1.length k2) := zF BK114.out 1; have e2 := zG BK114.out 0; have e3 := zG BK114.out 1; clear hn4 hg4 hb4))
      all_goals
        obtain ⟨W5, hW5⟩ : ∃ W5, W5 = ((w4.setCell ⟨g11, 0, none⟩ (.slice A3 m3 k3)).setCell ⟨g11, 1, none⟩ (.slice A4' m4 k4)) := ⟨_, rfl⟩
        have B11 : Aside0 (W5.heap[g11]? = some (.cells #[.slice A3 m3 k3, .slice A4' m4 k4] 51 (0, 0))) := ⟨by rw [hW5]; exact blk_put (blk_put BK114.out 0 _ rfl) 1 _ rfl⟩
        have B10' : Aside0 (W5.heap[g10]? = some (.cells #[.slice none 0 0, .slice none 0 0] 51 (0, 0))) := ⟨by rw [hW5]; exact blk_far (blk_far BK104.out (p := ⟨g11, 0, none⟩) NE.out _) NE.out _⟩
        have HB5 : Aside0 (Below w.heap.size w W5) := ⟨by rw [hW5]; exact zE (zE HB4.out GG.out) GG.out⟩
        have HR5 := zA (show Kd.R Kd.string 9 W5 w.heap.size (fun k => w.heap.size ≤ k) (.slice A3 m3 k3) _ from by rw [hW5]; exact Kd.R_set (Kd.R_set HR4.out BK114.out (by decide) 0 _) (blk_put BK114.out 0 _ rfl) (by decide) 1 _); have HN5 := zA (show Kd.N (Kd.slice 3 (Kd.int .i64)) 44 W5 w.heap.size (fun k => ((((P0_1_ k ∧ k < w.heap.size) ∨ (P4_ k ∧ k < w.heap.size)) ∨ w.heap.size ≤ k) ∧ k ≠ g11 ∧ k ≠ g10) ∧ some k ≠ (Value.slice A3 m3 k3).ownBlock) (.slice A4' m4 k4) _ from by rw [hW5]; exact Kd.N_far (p := ⟨g11, 1, none⟩) (Kd.N_far (p := ⟨g11, 0, none⟩) HN4.out (fun k hk => hk.1.2.1) _) (fun k hk => hk.1.2.1) _); rw [← hW5]; clear hW5 e0 e1 e2 e3 d0 d1 d1'; have f0 : W5.cell? ⟨g11, 0, none⟩ = some (.slice A3 m3 k3) := zF B11.out 0; have f1 : W5.cell? ⟨g11, 1, none⟩ = some (.slice A4' m4 k4) := zF B11.out 1; have f2 : W5.cell? ⟨g10, 0, none⟩ = some (.slice none 0 0) := zF B10'.out 0; have f3 : W5.cell? ⟨g10, 1, none⟩ = some (.slice none 0 0) := zF B10'.out 1; have f4 := zG B10'.out 0; have f5 := zG B10'.out 1; go_wp2_with fail; (try simp only [Exit.inBlock, Exit.then])
        refine bodyPost_ret (results_cell_row rfl _ _ g10 51 #[.slice A3 m3 k3, .slice A4' m4 k4] (0, 0) _ rfl (blk_put (blk_put B10'.out 0 _ rfl) 1 _ rfl) Try.underlying51 rfl (by kernel_rfl)) rfl ?_; refine ⟨.slice A3 m3 k3, .slice A4' m4 k4, by first | rfl | (simp; rfl), Kd.R_set (Kd.R_set HR5.out B10'.out (by decide) 0 _) (blk_put B10'.out 0 _ rfl) (by decide) 1 _, ?_, zE (zE HB5.out G10.out) G10.out⟩; exact Kd.N_mono (Kd.N_far (p := ⟨g10, 1, none⟩) (Kd.N_far (p := ⟨g10, 0, none⟩) HN5.out (fun k hk => hk.1.2.2) _) (fun k hk => hk.1.2.2) _) (fun k hk => ⟨hk.1.1.imp (fun h => h.imp (fun h => h.1) (fun h => h.1)) id, hk.2⟩)
    | _ => exact h
  case h2 =>
    have HQ := zA hQ1; clear hQ1; go_region_law (first
      | (go_simp; go_at_call 136; refine (HA.out _ (by (with_reducible repeat (first | apply below_drew | apply zD | apply zB)); exact HB.out)).mono ?_; rintro e w1 ⟨v1, rfl, ho1, hb1⟩; obtain ⟨A1, k1, rfl⟩ := Kd.R_slice ho1; have BX1 := zA (zX (g := g5) (o := .cells #[.slice A0_0 l0_0.length c0_0, .slice A0_1 l0_1.length c0_1] 51 (0, 0)) (qK B5.out) hb1); have BY1 := zA (zX (g := g10) (o := .cells #[.slice none 0 0, .slice none 0 0] 51 (0, 0)) (qK B10.out) hb1); have c51' : w1.cell? ⟨g5, 1, none⟩ = some (.slice A0_1 l0_1.length c0_1) := zF BX1.out 1; have c51'a : ∀ o, (w1.alloc o).cell? ⟨g5, 1, none⟩ = some (.slice A0_1 l0_1.length c0_1) := fun o => zF (zZ BX1.out o) 1; (try have BN1 := zA (zX (zAq (blk_new _ _)) hb1)); have HW1 := zA (zV (by (with_reducible repeat (first | apply below_drew | apply zD | apply zB)); exact HB.out) hb1); have HO1 := zA ho1; have HB1 := zA hb1; clear ho1 hb1)
      | (go_simp; go_at_call 137; refine (HV.out _ (by (with_reducible repeat (first | apply below_drew | apply zD | apply zB)); exact HW1.out)).mono ?_; rintro e w2 ⟨v2, rfl, ho2, hb2⟩; obtain ⟨A2, k2, rfl⟩ := Kd.N_slice ho2; have BY2 := zA (zX (g := g10) (o := .cells #[.slice none 0 0, .slice none 0 0] 51 (0, 0)) (qK BY1.out) hb2); (try first | (have BN2 := zA (zX BN1.out hb2); have n0' := zF BN2.out 0; have n1' := zF BN2.out 1; have f0' := zG BN2.out 0; have f1' := zG BN2.out 1; simp only [List.getElem?_toArray, List.getElem?_cons_zero, List.getElem?_cons_succ] at n0' n1'; (try (change w2.cell? ⟨W.heap.size, 0, none⟩ = _ at n0'; change w2.cell? ⟨W.heap.size, 1, none⟩ = _ at n1'; change w2.frozen? ⟨W.heap.size, 0, none⟩ = _ at f0'; change w2.frozen? ⟨W.heap.size, 1, none⟩ = _ at f1'))) | (have BN2 := zA (zX (blk_new _ _) hb2); have n0' := zF BN2.out 0; have n1' := zF BN2.out 1; have f0' := zG BN2.out 0; have f1' := zG BN2.out 1; simp only [List.getElem?_toArray, List.getElem?_cons_zero, List.getElem?_cons_succ] at n0' n1'; (try (change w2.cell? ⟨W.heap.size, 0, none⟩ = _ at n0'; change w2.cell? ⟨W.heap.size, 1, none⟩ = _ at n1'; change w2.frozen? ⟨W.heap.size, 0, none⟩ = _ at f0'; change w2.frozen? ⟨W.heap.size, 1, none⟩ = _ at f1')))); have HW2 := zA (zV (by (with_reducible repeat (first | apply below_drew | apply zD | apply zB)); exact HW1.out) hb2); have HO2 := zA ho2; have HO1' := zA (Kd.R_below (by (with_reducible repeat (first | apply Kd.R_drewN | apply Kd.R_drew | apply Kd.R_alloc)); exact Kd.R_mono (Kd.R_bound HO1.out) (fun k hk => (⟨hk.2.1, hk.2.2.1⟩ : _ ≤ k ∧ k < w1.heap.size))) hb2); have HB2 := zA hb2; clear ho2 hb2))
    all_goals (rw [HQ.out]; refine ⟨_, _, _, _, _, rfl, ?_⟩)
    all_goals
      refine ⟨?_, ?_, ?_, ?_, ?_, ?_⟩
      · first | (with_reducible exact blk_new _ _) | exact blk_put (blk_put BN2.out 0 _ rfl) 1 _ rfl
      · first | (with_reducible exact zZ BY2.out _) | (refine blk_far (blk_far BY2.out ?_ _) ?_ _ <;> first | exact zLq (blk_lt BY1.out) | exact zLq GS.out.2.2.2)
      · first | (with_reducible exact zLq (blk_lt BY2.out)) | (with_reducible exact zLq (blk_lt BY1.out)) | exact zLq GS.out.2.2.2
      · first | (with_reducible exact HW2.out.size) | (with_reducible exact HW1.out.size) | (with_reducible exact HB.out.size)
      · first | (with_reducible exact zD HW2.out _) | (refine zE (zE HW2.out ?_) ?_ <;> first | (with_reducible exact HW1.out.size) | (with_reducible exact HB.out.size))
      refine put_mid (w1 := w1) HW2.out ?_ ?_ ?_ GS.out.2.1 ?_ HO1'.out ?_ ?_ HO2.out ?_ ?_; all_goals first
        | (with_reducible exact HW2.out.size) | (with_reducible exact HW1.out.size) | (with_reducible exact HB.out.size) | (with_reducible exact Nat.le_refl _) | (with_reducible exact blk_lt BY1.out)
        | (with_reducible exact .inr (Nat.le_refl _)) | (with_reducible exact .inr HB2.out.size)
        | (have s1 := HW1.out.size; have s2 := HB.out.size; have s3 := HB1.out.size; have s4 := blk_lt BY1.out; simp at s3 ⊢; omega)
        | (intro k hlt hk; first | (with_reducible exact heap_alloc_old _ _ hlt) | exact (Below.heap_setCell _ _ _ k hk).trans (Below.heap_setCell _ _ _ k hk))
        | (simp; done) | (refine .inl ?_; simp; done)
        | trace_state
def index_add.f (k : Nat) (l0_0 : List ByteArray) (l0_1 : List (List Int)) (a1 : ByteArray) (a2 : Int) : Option (List ByteArray × (List (List Int)) × Int) := if a2 < 1 then (some (([] : List ByteArray), ([] : List (List Int)), 31)) else (if a2 > 999999 then (some (([] : List ByteArray), ([] : List (List Int)), 31)) else ((serial_Find.f k l0_0 a1).bind fun bt103 => (if bt103.2 = true then (if 0 ≤ bt103.1 then (if bt103.1 < (l0_1.length : Int) then ((rows_Find.f k (rd_L14 l0_1 bt103.1) a2).bind fun bt106 => (if bt106.2 = true then (some (([] : List ByteArray), ([] : List (List Int)), 32)) else ((index_pairs.f k l0_0 l0_1).bind fun t108 => (if t108 ≥ 2000 then (some (([] : List ByteArray), ([] : List (List Int)), 37)) else ((rows_With_int.f (rd_L14 l0_1 bt103.1) bt106.1 a2).bind fun bt109 => (if bt109.2 = 0 then ((index_put.f l0_0 l0_1 bt103.1 bt103.2 a1 bt109.1).bind fun bt113 => (some (bt113.1, bt113.2, 0))) else (some (([] : List ByteArray), ([] : List (List Int)), bt109.2)))))))) else (none)) else (none)) else ((rows_Find.f k ([] : List Int) a2).bind fun bt119 => (if bt119.2 = true then (some (([] : List ByteArray), ([] : List (List Int)), 32)) else ((index_pairs.f k l0_0 l0_1).bind fun t121 => (if t121 ≥ 2000 then (some (([] : List ByteArray), ([] : List (List Int)), 37)) else ((rows_With_int.f ([] : List Int) bt119.1 a2).bind fun bt122 => (if bt122.2 = 0 then ((index_put.f l0_0 l0_1 bt103.1 bt103.2 a1 bt122.1).bind fun bt126 => (some (bt126.1, bt126.2, 0))) else (some (([] : List ByteArray), ([] : List (List Int)), bt122.2)))))))))))
theorem index_add.mono : ∀ a0 a1 a2 a3 k, LeO (index_add.f k a0 a1 a2 a3) (index_add.f (k + 1) a0 a1 a2 a3) := by
  intro a0 a1 a2 a3 k
  unfold index_add.f
  repeat' (with_reducible first | exact index_pairs.mono _ _ _ | exact rows_Find.mono _ _ _ | exact serial_Find.mono _ _ _ | exact LeO.refl _ | exact LeO.none _ | refine LeO.ite ?_ ?_ | refine LeO.bind ?_ (fun _ => ?_))
set_option maxHeartbeats 8000000 in
set_option maxRecDepth 100000 in
theorem index_add.calls (k : Nat) (A0_0 : Option Addr) (c0_0 : Nat) (l0_0 : List ByteArray) (P0_1_ : Nat → Prop) (A0_1 : Option Addr) (c0_1 : Nat) (l0_1 : List (List Int)) (a1 : ByteArray) (a2 : Int) (r1 : List ByteArray) (r2 : List (List Int)) (r3 : Int) (w : World) (hr0_0 : Kd.C Kd.string w A0_0 l0_0.length l0_0) (hc0_0 : l0_0.length ≤ c0_0) (hs0_1 : Kd.V (Kd.slice 3 (Kd.int .i64)) 44 w w.heap.size (fun k_ => P0_1_ k_) (.slice A0_1 l0_1.length c0_1) l0_1) (h : index_add.f k l0_0 l0_1 a1 a2 = some (r1, r2, r3)) :
    Calls Try.prog 88 #[.agg #[.slice A0_0 l0_0.length c0_0, .slice A0_1 l0_1.length c0_1], .string a1, .int .i64 a2] w fun e w' => ∃ v0_ v1_ : Value, e = .returned (.tuple #[.agg #[v0_, v1_], .int .i64 r3]) ∧ Kd.R Kd.string 9 w' w.heap.size (fun k_ => (w.heap.size ≤ k_)) v0_ r1 ∧ Kd.N (Kd.slice 3 (Kd.int .i64)) 44 w' w.heap.size (fun k_ => (P0_1_ k_ ∨ w.heap.size ≤ k_) ∧ some k_ ≠ (v0_ : Value).ownBlock) v1_ r2 ∧ Below w.heap.size w w' := by
  have hu51 := Try.underlying51
  have HR0_0 := zA hr0_0
  have HC0_0 := zA hc0_0
  clear hr0_0 hc0_0
  have HO0_1 := zA (show Kd.V (Kd.slice 3 (Kd.int .i64)) 44 w w.heap.size (fun k_ => (P0_1_ k_ ∨ w.heap.size ≤ k_)) (.slice A0_1 l0_1.length c0_1) l0_1 from Kd.V_mono hs0_1 (fun k_ hk => .inl hk))
  have HB := zA (Below.refl w.heap.size w)
  have H : (if a2 < 1 then (some (([] : List ByteArray), ([] : List (List Int)), 31)) else (if a2 > 999999 then (some (([] : List ByteArray), ([] : List (List Int)), 31)) else ((serial_Find.f k l0_0 a1).bind fun bt103 => (if bt103.2 = true then (if 0 ≤ bt103.1 then (if bt103.1 < (l0_1.length : Int) then ((rows_Find.f k (rd_L14 l0_1 bt103.1) a2).bind fun bt106 => (if bt106.2 = true then (some (([] : List ByteArray), ([] : List (List Int)), 32)) else ((index_pairs.f k l0_0 l0_1).bind fun t108 => (if t108 ≥ 2000 then (some (([] : List ByteArray), ([] : List (List Int)), 37)) else ((rows_With_int.f (rd_L14 l0_1 bt103.1) bt106.1 a2).bind fun bt109 => (if bt109.2 = 0 then ((index_put.f l0_0 l0_1 bt103.1 bt103.2 a1 bt109.1).bind fun bt113 => (some (bt113.1, bt113.2, 0))) else (some (([] : List ByteArray), ([] : List (List Int)), bt109.2)))))))) else (none)) else (none)) else ((rows_Find.f k ([] : List Int) a2).bind fun bt119 => (if bt119.2 = true then (some (([] : List ByteArray), ([] : List (List Int)), 32)) else ((index_pairs.f k l0_0 l0_1).bind fun t121 => (if t121 ≥ 2000 then (some (([] : List ByteArray), ([] : List (List Int)), 37)) else ((rows_With_int.f ([] : List Int) bt119.1 a2).bind fun bt122 => (if bt122.2 = 0 then ((index_put.f l0_0 l0_1 bt103.1 bt103.2 a1 bt122.1).bind fun bt126 => (some (bt126.1, bt126.2, 0))) else (some (([] : List ByteArray), ([] : List (List Int)), bt122.2)))))))))))) = some (r1, r2, r3) := h
  clear h
  by_cases c4 : a2 < 1
  · rw [if_pos c4] at H
    have c4b0 : decide (a2 < 1) = true := zFq c4; clear c4; simp only [zNq, zOq] at H; obtain ⟨rfl, rfl, rfl⟩ := H; go_enter Try.func88, Try.ntmps88; go_wp2_with (first | ((with_reducible refine gate_dst (N := 3) rfl ?_); refine box_event qr (N := 3) qr (cs := #[.slice A0_0 l0_0.length c0_0, .slice A0_1 l0_1.length c0_1]) (t := 51) qg ?_; intro gb101 hg w5 hbox hb; have n0_ := zA (Kd.V_below (Kd.V_elderB (by (with_reducible repeat (first | apply Kd.V_alloc | apply Kd.V_drewN | apply Kd.V_drew)); exact HO0_1.out) gb101 (Nat.le_of_eq hg.symm)) hb); have n1_ := zA (zV qB hb); have n2_ := zA (hbox); have n3_ := zA ((qS : w.heap.size ≤ gb101)); have n4_ := zA ((qS : w.heap.size ≤ gb101)); clear HO0_1 HB; have HO0_1 := n0_; have HB := n1_; have BK101 := n2_; have GW101 := n3_; have GE101 := n4_; clear n0_ n1_ n2_ n3_ n4_ hb hbox hg) | ((with_reducible refine gate_dst (N := 6) rfl ?_); refine box_event qr (N := 6) qr (cs := #[.slice none 0 0, .slice none 0 0]) (t := 51) qg ?_; intro gb102 hg w6 hbox hb; have n0_ := zA (Kd.V_below (Kd.V_elderB (by (with_reducible repeat (first | apply Kd.V_alloc | apply Kd.V_drewN | apply Kd.V_drew)); exact HO0_1.out) gb102 (Nat.le_of_eq hg.symm)) hb); have n1_ := zA (qX BK101.out hb); have n2_ := zA (zV qB hb); have n3_ := zA (hbox); have n4_ := zA ((qS : w.heap.size ≤ gb102)); have n5_ := zA ((qS : w.heap.size ≤ gb102)); have n6_ := zA ((by rw [hg]; exact zLq (qL BK101.out) : gb101 ≠ gb102)); have n7_ := zA ((by rw [hg]; exact zMq (qL BK101.out) : gb102 ≠ gb101)); clear HO0_1 BK101 HB; have HO0_1 := n0_; have BK101 := n1_; have HB := n2_; have BK102 := n3_; have GW102 := n4_; have GE102 := n5_; have NB101_102 := n6_; have NB102_101 := n7_; clear n0_ n1_ n2_ n3_ n4_ n5_ n6_ n7_ hb hbox hg; have hnb7 := NB102_101.out; have hnc7 := NB101_102.out; obtain ⟨_, _, _, _⟩ := qc2f BK102.out)); refine bodyPost_ret (results_ct rfl _ _ gb102 51 #[.slice none 0 0, .slice none 0 0] (0, 0) _ rfl (qV BK102.out) Try.underlying51 rfl (by kernel_rfl)) rfl ?_; exact ⟨_, _, qE, qN, by first | exact Kd.S_nil _ _ _ _ _ | exact Kd.N_nil _ _ _ _ _ | exact Kd.V_nil _ _ _ _ _ | exact Kd.Q_nil _ _ _ _ _ | exact Kd.R_nil _ _ _ _ _, qB⟩
  rw [if_neg c4] at H
  have c4b0 : decide (a2 < 1) = false := zGq c4
  clear c4
  by_cases c9 : a2 > 999999
  · rw [if_pos c9] at H
    have c9b0 : decide (999999 < a2) = true := zFq c9; clear c9; simp only [zNq, zOq] at H; obtain ⟨rfl, rfl, rfl⟩ := H; go_enter Try.func88, Try.ntmps88; go_wp2_with (first | ((with_reducible refine gate_dst (N := 3) rfl ?_); refine box_event qr (N := 3) qr (cs := #[.slice A0_0 l0_0.length c0_0, .slice A0_1 l0_1.length c0_1]) (t := 51) qg ?_; intro gb101 hg w10 hbox hb; have n0_ := zA (Kd.V_below (Kd.V_elderB (by (with_reducible repeat (first | apply Kd.V_alloc | apply Kd.V_drewN | apply Kd.V_drew)); exact HO0_1.out) gb101 (Nat.le_of_eq hg.symm)) hb); have n1_ := zA (zV qB hb); have n2_ := zA (hbox); have n3_ := zA ((qS : w.heap.size ≤ gb101)); have n4_ := zA ((qS : w.heap.size ≤ gb101)); clear HO0_1 HB; have HO0_1 := n0_; have HB := n1_; have BK101 := n2_; have GW101 := n3_; have GE101 := n4_; clear n0_ n1_ n2_ n3_ n4_ hb hbox hg) | ((with_reducible refine gate_dst (N := 6) rfl ?_); refine box_event qr (N := 6) qr (cs := #[.slice none 0 0, .slice none 0 0]) (t := 51) qg ?_; intro gb102 hg w11 hbox hb; have n0_ := zA (Kd.V_below (Kd.V_elderB (by (with_reducible repeat (first | apply Kd.V_alloc | apply Kd.V_drewN | apply Kd.V_drew)); exact HO0_1.out) gb102 (Nat.le_of_eq hg.symm)) hb); have n1_ := zA (qX BK101.out hb); have n2_ := zA (zV qB hb); have n3_ := zA (hbox); have n4_ := zA ((qS : w.heap.size ≤ gb102)); have n5_ := zA ((qS : w.heap.size ≤ gb102)); have n6_ := zA ((by rw [hg]; exact zLq (qL BK101.out) : gb101 ≠ gb102)); have n7_ := zA ((by rw [hg]; exact zMq (qL BK101.out) : gb102 ≠ gb101)); clear HO0_1 BK101 HB; have HO0_1 := n0_; have BK101 := n1_; have HB := n2_; have BK102 := n3_; have GW102 := n4_; have GE102 := n5_; have NB101_102 := n6_; have NB102_101 := n7_; clear n0_ n1_ n2_ n3_ n4_ n5_ n6_ n7_ hb hbox hg; have hnb12 := NB102_101.out; have hnc12 := NB101_102.out; obtain ⟨_, _, _, _⟩ := qc2f BK102.out)); refine bodyPost_ret (results_ct rfl _ _ gb102 51 #[.slice none 0 0, .slice none 0 0] (0, 0) _ rfl (qV BK102.out) Try.underlying51 rfl (by kernel_rfl)) rfl ?_; exact ⟨_, _, qE, qN, by first | exact Kd.S_nil _ _ _ _ _ | exact Kd.N_nil _ _ _ _ _ | exact Kd.V_nil _ _ _ _ _ | exact Kd.Q_nil _ _ _ _ _ | exact Kd.R_nil _ _ _ _ _, qB⟩
  rw [if_neg c9] at H
  have c9b0 : decide (999999 < a2) = false := zGq c9
  clear c9
  replace H := Option.bind_eq_some_iff.mp H
  obtain ⟨⟨t103, t104⟩, A140, H⟩ := H
  try dsimp only at H
  have A14 := zA A140
  clear A140
  by_cases c15 : t104 = true
  · subst c15
    have H1 : (if 0 ≤ t103 then (if t103 < (l0_1.length : Int) then ((rows_Find.f k (rd_L14 l0_1 t103) a2).bind fun bt106 => (if bt106.2 = true then (some (([] : List ByteArray), ([] : List (List Int)), 32)) else ((index_pairs.f k l0_0 l0_1).bind fun t108 => (if t108 ≥ 2000 then (some (([] : List ByteArray), ([] : List (List Int)), 37)) else ((rows_With_int.f (rd_L14 l0_1 t103) bt106.1 a2).bind fun bt109 => (if bt109.2 = 0 then ((index_put.f l0_0 l0_1 t103 true a1 bt109.1).bind fun bt113 => (some (bt113.1, bt113.2, 0))) else (some (([] : List ByteArray), ([] : List (List Int)), bt109.2)))))))) else (none)) else (none)) = some (r1, r2, r3) := by first | (rw [if_pos rfl] at H; exact H) | rfl
    clear H; have H := H1; clear H1; by_cases c16 : 0 ≤ t103
    · rw [if_pos c16] at H
      have c16b0 : decide (0 ≤ t103) = true := zFq c16; clear c16; by_cases c17 : t103 < (l0_1.length : Int)
      · rw [if_pos c17] at H
        have c17b0 : decide (t103 < (l0_1.length : Int)) = true := zFq c17; clear c17; replace H := Option.bind_eq_some_iff.mp H; obtain ⟨⟨t106, t107⟩, A180, H⟩ := H; try dsimp only at H
        have A18 := zA A180; clear A180; by_cases c19 : t107 = true
        · subst c19
          have H1 : (some (([] : List ByteArray), ([] : List (List Int)), 32)) = some (r1, r2, r3) := by first | (rw [if_pos rfl] at H; exact H) | rfl
          clear H; have H := H1; clear H1; simp only [zNq, zOq] at H; obtain ⟨rfl, rfl, rfl⟩ := H; go_enter Try.func88, Try.ntmps88; go_wp2_with (first | ((with_reducible refine gate_dst (N := 3) rfl ?_); refine box_event qr (N := 3) qr (cs := #[.slice A0_0 l0_0.length c0_0, .slice A0_1 l0_1.length c0_1]) (t := 51) qg ?_; intro gb101 hg w20 hbox hb; have n0_ := zA (Kd.V_below (Kd.V_elderB (by (with_reducible repeat (first | apply Kd.V_alloc | apply Kd.V_drewN | apply Kd.V_drew)); exact HO0_1.out) gb101 (Nat.le_of_eq hg.symm)) hb); have n1_ := zA (zV qB hb); have n2_ := zA (hbox); have n3_ := zA ((qS : w.heap.size ≤ gb101)); have n4_ := zA ((qS : w.heap.size ≤ gb101)); clear HO0_1 HB; have HO0_1 := n0_; have HB := n1_; have BK101 := n2_; have GW101 := n3_; have GE101 := n4_; clear n0_ n1_ n2_ n3_ n4_ hb hbox hg) | ((with_reducible refine gate_dst (N := 6) rfl ?_); refine box_event qr (N := 6) qr (cs := #[.slice none 0 0, .slice none 0 0]) (t := 51) qg ?_; intro gb102 hg w21 hbox hb; have n0_ := zA (Kd.V_below (Kd.V_elderB (by (with_reducible repeat (first | apply Kd.V_alloc | apply Kd.V_drewN | apply Kd.V_drew)); exact HO0_1.out) gb102 (Nat.le_of_eq hg.symm)) hb); have n1_ := zA (qX BK101.out hb); have n2_ := zA (zV qB hb); have n3_ := zA (hbox); have n4_ := zA ((qS : w.heap.size ≤ gb102)); have n5_ := zA ((qS : w.heap.size ≤ gb102)); have n6_ := zA ((by rw [hg]; exact zLq (qL BK101.out) : gb101 ≠ gb102)); have n7_ := zA ((by rw [hg]; exact zMq (qL BK101.out) : gb102 ≠ gb101)); clear HO0_1 BK101 HB; have HO0_1 := n0_; have BK101 := n1_; have HB := n2_; have BK102 := n3_; have GW102 := n4_; have GE102 := n5_; have NB101_102 := n6_; have NB102_101 := n7_; clear n0_ n1_ n2_ n3_ n4_ n5_ n6_ n7_ hb hbox hg; have hnb22 := NB101_102.out; have hnc22 := NB102_101.out; obtain ⟨_, _, _, _⟩ := qc2f BK101.out) | ((with_reducible refine zJq (f := 85) rfl ?_); refine goesL_ (some 25) rfl rfl Try.func85 (by kernel_rfl) rfl #[.slice A0_0 l0_0.length c0_0, .string a1] rfl qG ?_; (with_reducible refine (serial_Find.calls k _ _ l0_0 a1 t103 true _ ?side1 ?side2 A14.out).mono ?_); (case side1 => exact qC (Kd.C_below HR0_0.out HB.out)); (case side2 => exact HC0_0.out); rintro e w24 ⟨rfl, hb⟩; refine ⟨_, rfl, ?_⟩; have n0_ := zA (Kd.V_below (by (with_reducible repeat (first | apply Kd.V_alloc | apply Kd.V_drewN | apply Kd.V_drew)); exact HO0_1.out) hb); have n1_ := zA (qX BK101.out hb); have n2_ := zA (qX BK102.out hb); have n3_ := zA (zV qB hb); clear HO0_1 BK101 BK102 HB; have HO0_1 := n0_; have BK101 := n1_; have BK102 := n2_; have HB := n3_; clear n0_ n1_ n2_ n3_; (try clear hb); obtain ⟨hcz25_0, hcz25_1, hfz25_0, hfz25_1⟩ := qc2f BK101.out; have p105 : 0 ≤ (t103 : Int) := of_decide_eq_true qA; have q105 : t103 < (l0_1.length : Int) := of_decide_eq_true qA; obtain ⟨ad105, A105_0, c105_0, e105, hx105_0, hl105_0, hi105_0⟩ := at_L14 (Kd.V_reads' HO0_1.out).2.2 t103 p105 q105; cases e105; obtain ⟨ce105, hce105, hMe105, hcc105⟩ := Kd.V_get HO0_1.out [] t103 p105 (by first | exact q105 | exact of_decide_eq_true qA | (have e_ := (Kd.V_reads' HO0_1.out).1; omega)); obtain ⟨ua105_0, uc105_0, rfl, ul105_0, ge105_0⟩ := Kd.FK_slice_open hMe105; have hv105_0 := hcc105 0 _ rfl; rw [Nat.add_zero, show ((Kd.slice 3 (Kd.int .i64))).sz = 1 from rfl, Nat.mul_one] at hv105_0; replace hv105_0 := zKq (hv105_0.symm.trans hx105_0); injection hv105_0 with hva_ hvn_ hvc_; rw [hva_] at ge105_0; rw [hvc_] at ul105_0; have HL105_0 := zA (show Kd.V (Kd.int .i64) 3 _ w.heap.size _ _ (rd_L14 l0_1 t103) from Kd.V_mk ul105_0 ge105_0); clear hva_ hvn_ hvc_ ge105_0 ul105_0 hcc105 hce105; have HR105_0 := zA hi105_0; have HC105_0 := zA hl105_0; clear hi105_0 hl105_0; replace p105 := eq_true p105; replace q105 := eq_true q105) | ((with_reducible refine zJq (f := 87) rfl ?_); refine goesL_ (some 37) rfl rfl Try.func87 (by kernel_rfl) rfl #[.slice A105_0 (rd_L14 l0_1 t103).length c105_0, .int .i64 a2] rfl qG ?_; (with_reducible refine (rows_Find.calls k _ _ (rd_L14 l0_1 t103) a2 t106 true _ ?side1 ?side2 A18.out).mono ?_); (case side1 => repeat (first | exact (by repeat (first | (with_reducible exact HR105_0.out) | (with_reducible refine Kd.C_alloc ?_ _) | (with_reducible refine Kd.C_drewN ?_ _) | (with_reducible refine Kd.C_drew ?_) | exact HR105_0.out)) | (with_reducible refine Kd.C_alloc ?_ _) | (with_reducible refine Kd.C_drewN ?_ _) | (with_reducible refine Kd.C_drew ?_))); (case side2 => exact HC105_0.out); rintro e w' ⟨rfl, ⟨nd, rfl⟩⟩; refine ⟨_, rfl, ?_⟩; (try (rw [drewN_self w24]; generalize hq_ : World.drewN w24 _ = w24; have n0_ : Aside0 (Kd.V (Kd.int .i64) 3 w24 w.heap.size (fun k_ => (P0_1_ k_ ∨ w.heap.size ≤ k_) ∧ k_ ≠ gb101 ∧ k_ ≠ gb102) (.slice A105_0 (rd_L14 l0_1 t103).length c105_0) (rd_L14 l0_1 t103)) := ⟨by rw [← hq_]; exact (by (with_reducible repeat (first | apply Kd.V_alloc | apply Kd.V_drewN | apply Kd.V_drew)); exact Kd.V_mono HL105_0.out (fun _ hk => ⟨hk.1.1, ⟨hk.1.2, hk.2⟩⟩))⟩; have n1_ : Aside0 (Kd.V (Kd.slice 3 (Kd.int .i64)) 44 w24 w.heap.size (fun k_ => (P0_1_ k_ ∨ w.heap.size ≤ k_) ∧ k_ ≠ gb101 ∧ k_ ≠ gb102) (.slice (some ad105) l0_1.length c0_1) l0_1) := ⟨by rw [← hq_]; exact (by (with_reducible repeat (first | apply Kd.V_alloc | apply Kd.V_drewN | apply Kd.V_drew)); exact Kd.V_mono HO0_1.out (fun _ hk => ⟨hk.1.1, ⟨hk.1.2, hk.2⟩⟩))⟩; have n2_ : Aside0 (w24.heap[gb101]? = some (.cells #[.slice A0_0 l0_0.length c0_0, .slice (some ad105) l0_1.length c0_1] 51 (0, 0))) := ⟨by rw [← hq_]; exact (qW BK101.out)⟩; have n3_ : Aside0 (w24.heap[gb102]? = some (.cells #[.slice none 0 0, .slice none 0 0] 51 (0, 0))) := ⟨by rw [← hq_]; exact (qW BK102.out)⟩; have n4_ : Aside0 (Below w.heap.size w w24) := ⟨by rw [← hq_]; exact qB⟩; have n5_ : Aside0 (Kd.C (Kd.int .i64) w24 A105_0 (rd_L14 l0_1 t103).length (rd_L14 l0_1 t103)) := ⟨by rw [← hq_]; exact (by repeat (first | (with_reducible exact HR105_0.out) | (with_reducible refine Kd.C_alloc ?_ _) | (with_reducible refine Kd.C_drewN ?_ _) | (with_reducible refine Kd.C_drew ?_) | exact HR105_0.out))⟩; clear HL105_0 HO0_1 BK101 BK102 HB HR105_0 hq_; have HL105_0 := n0_; have HO0_1 := n1_; have BK101 := n2_; have BK102 := n3_; have HB := n4_; have HR105_0 := n5_; clear n0_ n1_ n2_ n3_ n4_ n5_)); (try (obtain ⟨hcz25_0, hcz25_1, hfz25_0, hfz25_1⟩ := qc2f BK101.out)); obtain ⟨_, _, _, _⟩ := qc2f BK102.out))
          refine bodyPost_ret (results_ct rfl _ _ gb102 51 #[.slice none 0 0, .slice none 0 0] (0, 0) _ rfl (qV BK102.out) Try.underlying51 rfl (by kernel_rfl)) rfl ?_; exact ⟨_, _, qE, qN, by first | exact Kd.S_nil _ _ _ _ _ | exact Kd.N_nil _ _ _ _ _ | exact Kd.V_nil _ _ _ _ _ | exact Kd.Q_nil _ _ _ _ _ | exact Kd.R_nil _ _ _ _ _, qB⟩
        replace c19 := Bool.eq_false_iff.mpr c19; subst c19; have H1 : ((index_pairs.f k l0_0 l0_1).bind fun t108 => (if t108 ≥ 2000 then (some (([] : List ByteArray), ([] : List (List Int)), 37)) else ((rows_With_int.f (rd_L14 l0_1 t103) t106 a2).bind fun bt109 => (if bt109.2 = 0 then ((index_put.f l0_0 l0_1 t103 true a1 bt109.1).bind fun bt113 => (some (bt113.1, bt113.2, 0))) else (some (([] : List ByteArray), ([] : List (List Int)), bt109.2)))))) = some (r1, r2, r3) := by first | (rw [if_neg (show ¬ (false = true) by decide)] at H; exact H) | rfl
        clear H; have H := H1; clear H1; replace H := Option.bind_eq_some_iff.mp H; obtain ⟨t108, A270, H⟩ := H; try dsimp only at H
        have A27 := zA A270; clear A270; by_cases c28 : t108 ≥ 2000
        · rw [if_pos c28] at H
          have c28b0 : decide (2000 ≤ t108) = true := zFq c28; clear c28; simp only [zNq, zOq] at H; obtain ⟨rfl, rfl, rfl⟩ := H; go_enter Try.func88, Try.ntmps88; go_wp2_with (first | ((with_reducible refine gate_dst (N := 3) rfl ?_); refine box_event qr (N := 3) qr (cs := #[.slice A0_0 l0_0.length c0_0, .slice A0_1 l0_1.length c0_1]) (t := 51) qg ?_; intro gb101 hg w29 hbox hb; have n0_ := zA (Kd.V_below (Kd.V_elderB (by (with_reducible repeat (first | apply Kd.V_alloc | apply Kd.V_drewN | apply Kd.V_drew)); exact HO0_1.out) gb101 (Nat.le_of_eq hg.symm)) hb); have n1_ := zA (zV qB hb); have n2_ := zA (hbox); have n3_ := zA ((qS : w.heap.size ≤ gb101)); have n4_ := zA ((qS : w.heap.size ≤ gb101)); clear HO0_1 HB; have HO0_1 := n0_; have HB := n1_; have BK101 := n2_; have GW101 := n3_; have GE101 := n4_; clear n0_ n1_ n2_ n3_ n4_ hb hbox hg) | ((with_reducible refine gate_dst (N := 6) rfl ?_); refine box_event qr (N := 6) qr (cs := #[.slice none 0 0, .slice none 0 0]) (t := 51) qg ?_; intro gb102 hg w30 hbox hb; have n0_ := zA (Kd.V_below (Kd.V_elderB (by (with_reducible repeat (first | apply Kd.V_alloc | apply Kd.V_drewN | apply Kd.V_drew)); exact HO0_1.out) gb102 (Nat.le_of_eq hg.symm)) hb); have n1_ := zA (qX BK101.out hb); have n2_ := zA (zV qB hb); have n3_ := zA (hbox); have n4_ := zA ((qS : w.heap.size ≤ gb102)); have n5_ := zA ((qS : w.heap.size ≤ gb102)); have n6_ := zA ((by rw [hg]; exact zLq (qL BK101.out) : gb101 ≠ gb102)); have n7_ := zA ((by rw [hg]; exact zMq (qL BK101.out) : gb102 ≠ gb101)); clear HO0_1 BK101 HB; have HO0_1 := n0_; have BK101 := n1_; have HB := n2_; have BK102 := n3_; have GW102 := n4_; have GE102 := n5_; have NB101_102 := n6_; have NB102_101 := n7_; clear n0_ n1_ n2_ n3_ n4_ n5_ n6_ n7_ hb hbox hg; have hnb31 := NB101_102.out; have hnc31 := NB102_101.out; obtain ⟨_, _, _, _⟩ := qc2f BK101.out) | ((with_reducible refine zJq (f := 85) rfl ?_); refine goesL_ (some 25) rfl rfl Try.func85 (by kernel_rfl) rfl #[.slice A0_0 l0_0.length c0_0, .string a1] rfl qG ?_; (with_reducible refine (serial_Find.calls k _ _ l0_0 a1 t103 true _ ?side1 ?side2 A14.out).mono ?_); (case side1 => exact qC (Kd.C_below HR0_0.out HB.out)); (case side2 => exact HC0_0.out); rintro e w33 ⟨rfl, hb⟩; refine ⟨_, rfl, ?_⟩; have n0_ := zA (Kd.V_below (by (with_reducible repeat (first | apply Kd.V_alloc | apply Kd.V_drewN | apply Kd.V_drew)); exact HO0_1.out) hb); have n1_ := zA (qX BK101.out hb); have n2_ := zA (qX BK102.out hb); have n3_ := zA (zV qB hb); clear HO0_1 BK101 BK102 HB; have HO0_1 := n0_; have BK101 := n1_; have BK102 := n2_; have HB := n3_; clear n0_ n1_ n2_ n3_; (try clear hb); obtain ⟨hcz34_0, hcz34_1, hfz34_0, hfz34_1⟩ := qc2f BK101.out; have p105 : 0 ≤ (t103 : Int) := of_decide_eq_true qA; have q105 : t103 < (l0_1.length : Int) := of_decide_eq_true qA; obtain ⟨ad105, A105_0, c105_0, e105, hx105_0, hl105_0, hi105_0⟩ := at_L14 (Kd.V_reads' HO0_1.out).2.2 t103 p105 q105; cases e105; obtain ⟨ce105, hce105, hMe105, hcc105⟩ := Kd.V_get HO0_1.out [] t103 p105 (by first | exact q105 | exact of_decide_eq_true qA | (have e_ := (Kd.V_reads' HO0_1.out).1; omega)); obtain ⟨ua105_0, uc105_0, rfl, ul105_0, ge105_0⟩ := Kd.FK_slice_open hMe105; have hv105_0 := hcc105 0 _ rfl; rw [Nat.add_zero, show ((Kd.slice 3 (Kd.int .i64))).sz = 1 from rfl, Nat.mul_one] at hv105_0; replace hv105_0 := zKq (hv105_0.symm.trans hx105_0); injection hv105_0 with hva_ hvn_ hvc_; rw [hva_] at ge105_0; rw [hvc_] at ul105_0; have HL105_0 := zA (show Kd.V (Kd.int .i64) 3 _ w.heap.size _ _ (rd_L14 l0_1 t103) from Kd.V_mk ul105_0 ge105_0); clear hva_ hvn_ hvc_ ge105_0 ul105_0 hcc105 hce105; have HR105_0 := zA hi105_0; have HC105_0 := zA hl105_0; clear hi105_0 hl105_0; replace p105 := eq_true p105; replace q105 := eq_true q105) | ((with_reducible refine zJq (f := 87) rfl ?_); refine goesL_ (some 37) rfl rfl Try.func87 (by kernel_rfl) rfl #[.slice A105_0 (rd_L14 l0_1 t103).length c105_0, .int .i64 a2] rfl qG ?_; (with_reducible refine (rows_Find.calls k _ _ (rd_L14 l0_1 t103) a2 t106 false _ ?side1 ?side2 A18.out).mono ?_); (case side1 => repeat (first | exact (by repeat (first | (with_reducible exact HR105_0.out) | (with_reducible refine Kd.C_alloc ?_ _) | (with_reducible refine Kd.C_drewN ?_ _) | (with_reducible refine Kd.C_drew ?_) | exact HR105_0.out)) | (with_reducible refine Kd.C_alloc ?_ _) | (with_reducible refine Kd.C_drewN ?_ _) | (with_reducible refine Kd.C_drew ?_))); (case side2 => exact HC105_0.out); rintro e w' ⟨rfl, ⟨nd, rfl⟩⟩; refine ⟨_, rfl, ?_⟩; (try (rw [drewN_self w33]; generalize hq_ : World.drewN w33 _ = w33; have n0_ : Aside0 (Kd.V (Kd.int .i64) 3 w33 w.heap.size (fun k_ => (P0_1_ k_ ∨ w.heap.size ≤ k_) ∧ k_ ≠ gb101 ∧ k_ ≠ gb102) (.slice A105_0 (rd_L14 l0_1 t103).length c105_0) (rd_L14 l0_1 t103)) := ⟨by rw [← hq_]; exact (by (with_reducible repeat (first | apply Kd.V_alloc | apply Kd.V_drewN | apply Kd.V_drew)); exact Kd.V_mono HL105_0.out (fun _ hk => ⟨hk.1.1, ⟨hk.1.2, hk.2⟩⟩))⟩; have n1_ : Aside0 (Kd.V (Kd.slice 3 (Kd.int .i64)) 44 w33 w.heap.size (fun k_ => (P0_1_ k_ ∨ w.heap.size ≤ k_) ∧ k_ ≠ gb101 ∧ k_ ≠ gb102) (.slice (some ad105) l0_1.length c0_1) l0_1) := ⟨by rw [← hq_]; exact (by (with_reducible repeat (first | apply Kd.V_alloc | apply Kd.V_drewN | apply Kd.V_drew)); exact Kd.V_mono HO0_1.out (fun _ hk => ⟨hk.1.1, ⟨hk.1.2, hk.2⟩⟩))⟩; have n2_ : Aside0 (w33.heap[gb101]? = some (.cells #[.slice A0_0 l0_0.length c0_0, .slice (some ad105) l0_1.length c0_1] 51 (0, 0))) := ⟨by rw [← hq_]; exact (qW BK101.out)⟩; have n3_ : Aside0 (w33.heap[gb102]? = some (.cells #[.slice none 0 0, .slice none 0 0] 51 (0, 0))) := ⟨by rw [← hq_]; exact (qW BK102.out)⟩; have n4_ : Aside0 (Below w.heap.size w w33) := ⟨by rw [← hq_]; exact qB⟩; have n5_ : Aside0 (Kd.C (Kd.int .i64) w33 A105_0 (rd_L14 l0_1 t103).length (rd_L14 l0_1 t103)) := ⟨by rw [← hq_]; exact (by repeat (first | (with_reducible exact HR105_0.out) | (with_reducible refine Kd.C_alloc ?_ _) | (with_reducible refine Kd.C_drewN ?_ _) | (with_reducible refine Kd.C_drew ?_) | exact HR105_0.out))⟩; clear HL105_0 HO0_1 BK101 BK102 HB HR105_0 hq_; have HL105_0 := n0_; have HO0_1 := n1_; have BK101 := n2_; have BK102 := n3_; have HB := n4_; have HR105_0 := n5_; clear n0_ n1_ n2_ n3_ n4_ n5_)); (try (obtain ⟨hcz34_0, hcz34_1, hfz34_0, hfz34_1⟩ := qc2f BK101.out))) | ((with_reducible refine zJq (f := 81) rfl ?_); refine goesL_ (some 45) rfl rfl Try.func81 (by kernel_rfl) rfl #[.agg #[.slice A0_0 l0_0.length c0_0, .slice (some ad105) l0_1.length c0_1]] rfl qG ?_; (with_reducible refine (index_pairs.calls k _ _ l0_0 _ _ l0_1 t108 _ ?side1 ?side2 ?side3 ?side4 A27.out).mono ?_); (case side1 => exact qC (Kd.C_below HR0_0.out HB.out)); (case side2 => exact HC0_0.out); (case side3 => repeat (first | exact (Kd.V_reads' HO0_1.out).2.2 | (with_reducible refine Kd.C_alloc ?_ _) | (with_reducible refine Kd.C_drewN ?_ _) | (with_reducible refine Kd.C_drew ?_))); (case side4 => exact (Kd.V_reads' HO0_1.out).2.1); rintro e w35 ⟨rfl, hb⟩; refine ⟨_, rfl, ?_⟩; have n0_ := zA (Kd.V_below (by (with_reducible repeat (first | apply Kd.V_alloc | apply Kd.V_drewN | apply Kd.V_drew)); exact HO0_1.out) hb); have n1_ := zA (Kd.V_below (by (with_reducible repeat (first | apply Kd.V_alloc | apply Kd.V_drewN | apply Kd.V_drew)); exact HL105_0.out) hb); have n2_ := zA (qX BK101.out hb); have n3_ := zA (qX BK102.out hb); have n4_ := zA (Kd.C_below (by repeat (first | (with_reducible exact HR105_0.out) | (with_reducible refine Kd.C_alloc ?_ _) | (with_reducible refine Kd.C_drewN ?_ _) | (with_reducible refine Kd.C_drew ?_) | exact HR105_0.out)) hb); have n5_ := zA (zV qB hb); clear HO0_1 HL105_0 BK101 BK102 HR105_0 HB; have HO0_1 := n0_; have HL105_0 := n1_; have BK101 := n2_; have BK102 := n3_; have HR105_0 := n4_; have HB := n5_; clear n0_ n1_ n2_ n3_ n4_ n5_; (try clear hb); obtain ⟨_, _, _, _⟩ := qc2f BK102.out))
          refine bodyPost_ret (results_ct rfl _ _ gb102 51 #[.slice none 0 0, .slice none 0 0] (0, 0) _ rfl (qV BK102.out) Try.underlying51 rfl (by kernel_rfl)) rfl ?_; exact ⟨_, _, qE, qN, by first | exact Kd.S_nil _ _ _ _ _ | exact Kd.N_nil _ _ _ _ _ | exact Kd.V_nil _ _ _ _ _ | exact Kd.Q_nil _ _ _ _ _ | exact Kd.R_nil _ _ _ _ _, qB⟩
        rw [if_neg c28] at H; have c28b0 : decide (2000 ≤ t108) = false := zGq c28; clear c28; replace H := Option.bind_eq_some_iff.mp H; obtain ⟨⟨t109, t110⟩, A370, H⟩ := H; try dsimp only at H
        have A37 := zA A370; clear A370; by_cases c38 : t110 = 0
        · rw [if_pos c38] at H
          have c38b0 : (t110 == 0) = true := beq_iff_eq.mpr c38; have c38b1 : (t110 != 0) = false := bne_eq_false_iff_eq.mpr c38; clear c38; replace H := Option.bind_eq_some_iff.mp H; obtain ⟨⟨t113, t116⟩, A390, H⟩ := H; try dsimp only at H
          have A39 := zA A390; clear A390; simp only [zNq, zOq] at H; obtain ⟨rfl, rfl, rfl⟩ := H; go_enter Try.func88, Try.ntmps88; go_wp2_with (first | ((with_reducible refine gate_dst (N := 3) rfl ?_); refine box_event qr (N := 3) qr (cs := #[.slice A0_0 l0_0.length c0_0, .slice A0_1 l0_1.length c0_1]) (t := 51) qg ?_; intro gb101 hg w40 hbox hb; have n0_ := zA (Kd.V_below (Kd.V_elderB (by (with_reducible repeat (first | apply Kd.V_alloc | apply Kd.V_drewN | apply Kd.V_drew)); exact HO0_1.out) gb101 (Nat.le_of_eq hg.symm)) hb); have n1_ := zA (zV qB hb); have n2_ := zA (hbox); have n3_ := zA ((qS : w.heap.size ≤ gb101)); have n4_ := zA ((qS : w.heap.size ≤ gb101)); clear HO0_1 HB; have HO0_1 := n0_; have HB := n1_; have BK101 := n2_; have GW101 := n3_; have GE101 := n4_; clear n0_ n1_ n2_ n3_ n4_ hb hbox hg) | ((with_reducible refine gate_dst (N := 6) rfl ?_); refine box_event qr (N := 6) qr (cs := #[.slice none 0 0, .slice none 0 0]) (t := 51) qg ?_; intro gb102 hg w41 hbox hb; have n0_ := zA (Kd.V_below (Kd.V_elderB (by (with_reducible repeat (first | apply Kd.V_alloc | apply Kd.V_drewN | apply Kd.V_drew)); exact HO0_1.out) gb102 (Nat.le_of_eq hg.symm)) hb); have n1_ := zA (qX BK101.out hb); have n2_ := zA (zV qB hb); have n3_ := zA (hbox); have n4_ := zA ((qS : w.heap.size ≤ gb102)); have n5_ := zA ((qS : w.heap.size ≤ gb102)); have n6_ := zA ((by rw [hg]; exact zLq (qL BK101.out) : gb101 ≠ gb102)); have n7_ := zA ((by rw [hg]; exact zMq (qL BK101.out) : gb102 ≠ gb101)); clear HO0_1 BK101 HB; have HO0_1 := n0_; have BK101 := n1_; have HB := n2_; have BK102 := n3_; have GW102 := n4_; have GE102 := n5_; have NB101_102 := n6_; have NB102_101 := n7_; clear n0_ n1_ n2_ n3_ n4_ n5_ n6_ n7_ hb hbox hg; have hnb42 := NB101_102.out; have hnc42 := NB102_101.out; obtain ⟨_, _, _, _⟩ := qc2f BK101.out) | ((with_reducible refine zJq (f := 85) rfl ?_); refine goesL_ (some 25) rfl rfl Try.func85 (by kernel_rfl) rfl #[.slice A0_0 l0_0.length c0_0, .string a1] rfl qG ?_; (with_reducible refine (serial_Find.calls k _ _ l0_0 a1 t103 true _ ?side1 ?side2 A14.out).mono ?_); (case side1 => exact qC (Kd.C_below HR0_0.out HB.out)); (case side2 => exact HC0_0.out); rintro e w44 ⟨rfl, hb⟩; refine ⟨_, rfl, ?_⟩; have n0_ := zA (Kd.V_below (by (with_reducible repeat (first | apply Kd.V_alloc | apply Kd.V_drewN | apply Kd.V_drew)); exact HO0_1.out) hb); have n1_ := zA (qX BK101.out hb); have n2_ := zA (qX BK102.out hb); have n3_ := zA (zV qB hb); clear HO0_1 BK101 BK102 HB; have HO0_1 := n0_; have BK101 := n1_; have BK102 := n2_; have HB := n3_; clear n0_ n1_ n2_ n3_; (try clear hb); obtain ⟨hcz45_0, hcz45_1, hfz45_0, hfz45_1⟩ := qc2f BK101.out; have p105 : 0 ≤ (t103 : Int) := of_decide_eq_true qA; have q105 : t103 < (l0_1.length : Int) := of_decide_eq_true qA; obtain ⟨ad105, A105_0, c105_0, e105, hx105_0, hl105_0, hi105_0⟩ := at_L14 (Kd.V_reads' HO0_1.out).2.2 t103 p105 q105; cases e105; obtain ⟨ce105, hce105, hMe105, hcc105⟩ := Kd.V_get HO0_1.out [] t103 p105 (by first | exact q105 | exact of_decide_eq_true qA | (have e_ := (Kd.V_reads' HO0_1.out).1; omega)); obtain ⟨ua105_0, uc105_0, rfl, ul105_0, ge105_0⟩ := Kd.FK_slice_open hMe105; have hv105_0 := hcc105 0 _ rfl; rw [Nat.add_zero, show ((Kd.slice 3 (Kd.int .i64))).sz = 1 from rfl, Nat.mul_one] at hv105_0; replace hv105_0 := zKq (hv105_0.symm.trans hx105_0); injection hv105_0 with hva_ hvn_ hvc_; rw [hva_] at ge105_0; rw [hvc_] at ul105_0; have HL105_0 := zA (show Kd.V (Kd.int .i64) 3 _ w.heap.size _ _ (rd_L14 l0_1 t103) from Kd.V_mk ul105_0 ge105_0); clear hva_ hvn_ hvc_ ge105_0 ul105_0 hcc105 hce105; have HR105_0 := zA hi105_0; have HC105_0 := zA hl105_0; clear hi105_0 hl105_0; replace p105 := eq_true p105; replace q105 := eq_true q105) | ((with_reducible refine zJq (f := 87) rfl ?_); refine goesL_ (some 37) rfl rfl Try.func87 (by kernel_rfl) rfl #[.slice A105_0 (rd_L14 l0_1 t103).length c105_0, .int .i64 a2] rfl qG ?_; (with_reducible refine (rows_Find.calls k _ _ (rd_L14 l0_1 t103) a2 t106 false _ ?side1 ?side2 A18.out).mono ?_); (case side1 => repeat (first | exact (by repeat (first | (with_reducible exact HR105_0.out) | (with_reducible refine Kd.C_alloc ?_ _) | (with_reducible refine Kd.C_drewN ?_ _) | (with_reducible refine Kd.C_drew ?_) | exact HR105_0.out)) | (with_reducible refine Kd.C_alloc ?_ _) | (with_reducible refine Kd.C_drewN ?_ _) | (with_reducible refine Kd.C_drew ?_))); (case side2 => exact HC105_0.out); rintro e w' ⟨rfl, ⟨nd, rfl⟩⟩; refine ⟨_, rfl, ?_⟩; (try (rw [drewN_self w44]; generalize hq_ : World.drewN w44 _ = w44; have n0_ : Aside0 (Kd.V (Kd.int .i64) 3 w44 w.heap.size (fun k_ => (P0_1_ k_ ∨ w.heap.size ≤ k_) ∧ k_ ≠ gb101 ∧ k_ ≠ gb102) (.slice A105_0 (rd_L14 l0_1 t103).length c105_0) (rd_L14 l0_1 t103)) := ⟨by rw [← hq_]; exact (by (with_reducible repeat (first | apply Kd.V_alloc | apply Kd.V_drewN | apply Kd.V_drew)); exact Kd.V_mono HL105_0.out (fun _ hk => ⟨hk.1.1, ⟨hk.1.2, hk.2⟩⟩))⟩; have n1_ : Aside0 (Kd.V (Kd.slice 3 (Kd.int .i64)) 44 w44 w.heap.size (fun k_ => (P0_1_ k_ ∨ w.heap.size ≤ k_) ∧ k_ ≠ gb101 ∧ k_ ≠ gb102) (.slice (some ad105) l0_1.length c0_1) l0_1) := ⟨by rw [← hq_]; exact (by (with_reducible repeat (first | apply Kd.V_alloc | apply Kd.V_drewN | apply Kd.V_drew)); exact Kd.V_mono HO0_1.out (fun _ hk => ⟨hk.1.1, ⟨hk.1.2, hk.2⟩⟩))⟩; have n2_ : Aside0 (w44.heap[gb101]? = some (.cells #[.slice A0_0 l0_0.length c0_0, .slice (some ad105) l0_1.length c0_1] 51 (0, 0))) := ⟨by rw [← hq_]; exact (qW BK101.out)⟩; have n3_ : Aside0 (w44.heap[gb102]? = some (.cells #[.slice none 0 0, .slice none 0 0] 51 (0, 0))) := ⟨by rw [← hq_]; exact (qW BK102.out)⟩; have n4_ : Aside0 (Below w.heap.size w w44) := ⟨by rw [← hq_]; exact qB⟩; have n5_ : Aside0 (Kd.C (Kd.int .i64) w44 A105_0 (rd_L14 l0_1 t103).length (rd_L14 l0_1 t103)) := ⟨by rw [← hq_]; exact (by repeat (first | (with_reducible exact HR105_0.out) | (with_reducible refine Kd.C_alloc ?_ _) | (with_reducible refine Kd.C_drewN ?_ _) | (with_reducible refine Kd.C_drew ?_) | exact HR105_0.out))⟩; clear HL105_0 HO0_1 BK101 BK102 HB HR105_0 hq_; have HL105_0 := n0_; have HO0_1 := n1_; have BK101 := n2_; have BK102 := n3_; have HB := n4_; have HR105_0 := n5_; clear n0_ n1_ n2_ n3_ n4_ n5_)); (try (obtain ⟨hcz45_0, hcz45_1, hfz45_0, hfz45_1⟩ := qc2f BK101.out))) | ((with_reducible refine zJq (f := 81) rfl ?_); refine goesL_ (some 45) rfl rfl Try.func81 (by kernel_rfl) rfl #[.agg #[.slice A0_0 l0_0.length c0_0, .slice (some ad105) l0_1.length c0_1]] rfl qG ?_; (with_reducible refine (index_pairs.calls k _ _ l0_0 _ _ l0_1 t108 _ ?side1 ?side2 ?side3 ?side4 A27.out).mono ?_); (case side1 => exact qC (Kd.C_below HR0_0.out HB.out)); (case side2 => exact HC0_0.out); (case side3 => repeat (first | exact (Kd.V_reads' HO0_1.out).2.2 | (with_reducible refine Kd.C_alloc ?_ _) | (with_reducible refine Kd.C_drewN ?_ _) | (with_reducible refine Kd.C_drew ?_))); (case side4 => exact (Kd.V_reads' HO0_1.out).2.1); rintro e w46 ⟨rfl, hb⟩; refine ⟨_, rfl, ?_⟩; have n0_ := zA (Kd.V_below (by (with_reducible repeat (first | apply Kd.V_alloc | apply Kd.V_drewN | apply Kd.V_drew)); exact HO0_1.out) hb); have n1_ := zA (Kd.V_below (by (with_reducible repeat (first | apply Kd.V_alloc | apply Kd.V_drewN | apply Kd.V_drew)); exact HL105_0.out) hb); have n2_ := zA (qX BK101.out hb); have n3_ := zA (qX BK102.out hb); have n4_ := zA (Kd.C_below (by repeat (first | (with_reducible exact HR105_0.out) | (with_reducible refine Kd.C_alloc ?_ _) | (with_reducible refine Kd.C_drewN ?_ _) | (with_reducible refine Kd.C_drew ?_) | exact HR105_0.out)) hb); have n5_ := zA (zV qB hb); clear HO0_1 HL105_0 BK101 BK102 HR105_0 HB; have HO0_1 := n0_; have HL105_0 := n1_; have BK101 := n2_; have BK102 := n3_; have HR105_0 := n4_; have HB := n5_; clear n0_ n1_ n2_ n3_ n4_ n5_; (try clear hb)) | ((with_reducible refine zJq (f := 135) rfl ?_); refine goesL_ (some 52) rfl rfl Try.func135 (by kernel_rfl) rfl #[.slice A105_0 (rd_L14 l0_1 t103).length c105_0, .int .i64 t106, .int .i64 a2] rfl qG ?_; (with_reducible refine (rows_With_int.calls _ _ (rd_L14 l0_1 t103) t106 a2 t109 t110 _ ?side1 ?side2 A37.out).mono ?_); (case side1 => repeat (first | exact (by repeat (first | (with_reducible exact HR105_0.out) | (with_reducible refine Kd.C_alloc ?_ _) | (with_reducible refine Kd.C_drewN ?_ _) | (with_reducible refine Kd.C_drew ?_) | exact HR105_0.out)) | (with_reducible refine Kd.C_alloc ?_ _) | (with_reducible refine Kd.C_drewN ?_ _) | (with_reducible refine Kd.C_drew ?_))); (case side2 => exact HC105_0.out); rintro e w47 ⟨v111, rfl, ho0, hb⟩; refine ⟨_, rfl, ?_⟩; have n0_ := zA (Kd.V_elder' (by (with_reducible repeat (first | apply Kd.V_alloc | apply Kd.V_drewN | apply Kd.V_drew)); exact HO0_1.out) (Kd.R_base ho0) hb); have n1_ := zA (Kd.V_elder' (by (with_reducible repeat (first | apply Kd.V_alloc | apply Kd.V_drewN | apply Kd.V_drew)); exact HL105_0.out) (Kd.R_base ho0) hb); have n2_ := zA (Kd.R_lower (Kd.R_newM (M := fun k_ => (w.heap.size ≤ k_)) ho0 (zW qB) (fun k_ h_ => h_)) (zW qB)); have n3_ := zA (qX BK101.out hb); have n4_ := zA (qX BK102.out hb); have n5_ := zA (Kd.C_below (by repeat (first | (with_reducible exact HR105_0.out) | (with_reducible refine Kd.C_alloc ?_ _) | (with_reducible refine Kd.C_drewN ?_ _) | (with_reducible refine Kd.C_drew ?_) | exact HR105_0.out)) hb); have n6_ := zA (zV qB hb); clear HO0_1 HL105_0 BK101 BK102 HR105_0 HB; have HO0_1 := n0_; have HL105_0 := n1_; have HO112 := n2_; have BK101 := n3_; have BK102 := n4_; have HR105_0 := n5_; have HB := n6_; clear n0_ n1_ n2_ n3_ n4_ n5_ n6_; (try clear hb); (try clear ho0); obtain ⟨_, _, _, _⟩ := qc2f BK101.out; obtain ⟨Ao49, co49, eo49⟩ := Kd.R_slice HO112.out; subst eo49) | ((with_reducible refine zJq (f := 90) rfl ?_); refine goesL_ (some 64) rfl rfl Try.func90 (by kernel_rfl) rfl #[.agg #[.slice A0_0 l0_0.length c0_0, .slice (some ad105) l0_1.length c0_1], .int .i64 t103, .bool true, .string a1, .slice Ao49 t109.length co49] rfl qG ?_; (with_reducible refine (index_put.calls _ _ l0_0 (fun k_ => ((((P0_1_ k_ ∨ w.heap.size ≤ k_) ∧ k_ ≠ gb101) ∧ k_ ≠ gb102) ∧ some k_ ≠ (.slice Ao49 t109.length co49 : Value).ownBlock)) _ _ l0_1 t103 true a1 (fun k_ => some k_ = (.slice Ao49 t109.length co49 : Value).ownBlock) _ _ t109 t113 t116 _ ?side1 ?side2 ?side3 ?side4 A39.out).mono ?_); (case side1 => exact qC (Kd.C_below HR0_0.out HB.out)); (case side2 => exact HC0_0.out); (case side3 => first | exact HO0_1.out | exact Kd.V_mono HO0_1.out (fun _ hk => by simp only [and_assoc] at hk ⊢; exact hk)); (case side4 => exact Kd.R_V (Kd.R_tight rfl (Kd.R_types (Kd.R_types (HO112.out) BK101.out (by decide)) BK102.out (by decide)))); rintro e w50 ⟨v114, v117, rfl, ho0, ho1, hb⟩; refine ⟨_, rfl, ?_⟩; have n0_ := zA (Kd.V_mono (Kd.V_told (Kd.V_told (Kd.V_old (by (with_reducible repeat (first | apply Kd.V_alloc | apply Kd.V_drewN | apply Kd.V_drew)); exact HO0_1.out) hb) (Kd.R_base ho0)) (Kd.N_base ho1)) (fun _ h_ => h_.1)); have n1_ := zA (Kd.V_mono (Kd.V_told (Kd.V_told (Kd.V_old (by (with_reducible repeat (first | apply Kd.V_alloc | apply Kd.V_drewN | apply Kd.V_drew)); exact HL105_0.out) hb) (Kd.R_base ho0)) (Kd.N_base ho1)) (fun _ h_ => h_.1)); have n2_ := zA (Kd.R_below (by (with_reducible repeat (first | apply Kd.R_alloc | apply Kd.R_drewN | apply Kd.R_drew)); exact HO112.out) hb); have n3_ := zA (Kd.R_lower (Kd.R_newM (M := fun k_ => (w.heap.size ≤ k_)) (Kd.R_mono (ok' := fun k_ => True) ho0 (fun _ hk_ => trivial)) (zW qB) (fun k_ h_ => h_)) (zW qB)); have n4_ := zA (Kd.N_lower (Kd.N_mono (ok' := fun k_ => (P0_1_ k_ ∨ w.heap.size ≤ k_) ∧ some k_ ≠ (v114 : Value).ownBlock ∧ k_ ≠ gb101 ∧ k_ ≠ gb102) ho1 (fun k_ hk_ => ⟨Or.elim hk_.1 (fun hs_ => Or.elim hs_ (fun hs_ => hs_.1.1.1) (fun hs_ => (.inr (((Kd.R_types (Kd.R_types (HO112.out) BK101.out (by decide)) BK102.out (by decide)).1 k_ hs_.symm).1.1.1)))) (fun hn_ => (.inr (Nat.le_trans (zW qB) hn_))), hk_.2, Or.elim hk_.1 (fun hs_ => Or.elim hs_ (fun hs_ => hs_.1.1.2) (fun hs_ => ((Kd.R_types (Kd.R_types (HO112.out) BK101.out (by decide)) BK102.out (by decide)).1 k_ hs_.symm).1.2)) (fun hn_ => (Kd.freshB (g := gb101) (o := .cells #[.slice A0_0 l0_0.length c0_0, .slice (some ad105) l0_1.length c0_1] 51 (0, 0)) (qW BK101.out) k_ hn_)), Or.elim hk_.1 (fun hs_ => Or.elim hs_ (fun hs_ => hs_.1.2) (fun hs_ => ((Kd.R_types (Kd.R_types (HO112.out) BK101.out (by decide)) BK102.out (by decide)).1 k_ hs_.symm).2)) (fun hn_ => (Kd.freshB (g := gb102) (o := .cells #[.slice none 0 0, .slice none 0 0] 51 (0, 0)) (qW BK102.out) k_ hn_))⟩)) (zW qB)); have n5_ := zA (qX BK101.out hb); have n6_ := zA (qX BK102.out hb); have n7_ := zA (Kd.C_below (by repeat (first | (with_reducible exact HR105_0.out) | (with_reducible refine Kd.C_alloc ?_ _) | (with_reducible refine Kd.C_drewN ?_ _) | (with_reducible refine Kd.C_drew ?_) | exact HR105_0.out)) hb); have n8_ := zA (zV qB hb); clear HO0_1 HL105_0 HO112 BK101 BK102 HR105_0 HB; have HO0_1 := n0_; have HL105_0 := n1_; have HO112 := n2_; have HO115 := n3_; have HO118 := n4_; have BK101 := n5_; have BK102 := n6_; have HR105_0 := n7_; have HB := n8_; clear n0_ n1_ n2_ n3_ n4_ n5_ n6_ n7_ n8_; (try clear hb); (try clear ho0); (try clear ho1); obtain ⟨Ao51, co51, eo51⟩ := Kd.R_slice HO115.out; subst eo51; obtain ⟨_, _, _, _⟩ := qc2f BK102.out; obtain ⟨Ao53, co53, eo53⟩ := Kd.N_slice HO118.out; subst eo53))
          refine bodyPost_ret (results_ct rfl _ _ gb102 51 #[.slice Ao51 t113.length co51, .slice Ao53 t116.length co53] (0, 0) _ rfl (qV BK102.out) Try.underlying51 rfl (by kernel_rfl)) rfl ?_; exact ⟨_, _, qE, by (with_reducible repeat (first | apply Kd.R_alloc | apply Kd.R_drewN | apply Kd.R_drew)); exact Kd.R_mono (Kd.R_far (p := ⟨gb102, 1, none⟩) (Kd.R_far (p := ⟨gb102, 0, none⟩) (Kd.R_types HO115.out BK102.out (by decide)) (fun _ hk => hk.2) (.slice Ao51 t113.length co51)) (fun _ hk => hk.2) (.slice Ao53 t116.length co53)) (fun _ hk => hk.1.1), by (with_reducible repeat (first | apply Kd.N_alloc | apply Kd.N_drewN | apply Kd.N_drew)); exact Kd.N_mono (Kd.N_far (p := ⟨gb102, 1, none⟩) (Kd.N_far (p := ⟨gb102, 0, none⟩) (Kd.N_mono HO118.out (fun k_ hk => (⟨hk, hk.2.2.2⟩ : _ ∧ k_ ≠ gb102))) (fun _ hk => hk.2) (.slice Ao51 t113.length co51)) (fun _ hk => hk.2) (.slice Ao53 t116.length co53)) (fun _ hk => ⟨hk.1.1, hk.1.2.1⟩), qB⟩
        rw [if_neg c38] at H; have c38b0 : (t110 == 0) = false := beq_eq_false_iff_ne.mpr c38; have c38b1 : (t110 != 0) = true := bne_iff_ne.mpr c38; simp only [zNq, zOq] at H; obtain ⟨rfl, rfl, rfl⟩ := H; go_enter Try.func88, Try.ntmps88; go_wp2_with (first | ((with_reducible refine gate_dst (N := 3) rfl ?_); refine box_event qr (N := 3) qr (cs := #[.slice A0_0 l0_0.length c0_0, .slice A0_1 l0_1.length c0_1]) (t := 51) qg ?_; intro gb101 hg w54 hbox hb; have n0_ := zA (Kd.V_below (Kd.V_elderB (by (with_reducible repeat (first | apply Kd.V_alloc | apply Kd.V_drewN | apply Kd.V_drew)); exact HO0_1.out) gb101 (Nat.le_of_eq hg.symm)) hb); have n1_ := zA (zV qB hb); have n2_ := zA (hbox); have n3_ := zA ((qS : w.heap.size ≤ gb101)); have n4_ := zA ((qS : w.heap.size ≤ gb101)); clear HO0_1 HB; have HO0_1 := n0_; have HB := n1_; have BK101 := n2_; have GW101 := n3_; have GE101 := n4_; clear n0_ n1_ n2_ n3_ n4_ hb hbox hg) | ((with_reducible refine gate_dst (N := 6) rfl ?_); refine box_event qr (N := 6) qr (cs := #[.slice none 0 0, .slice none 0 0]) (t := 51) qg ?_; intro gb102 hg w55 hbox hb; have n0_ := zA (Kd.V_below (Kd.V_elderB (by (with_reducible repeat (first | apply Kd.V_alloc | apply Kd.V_drewN | apply Kd.V_drew)); exact HO0_1.out) gb102 (Nat.le_of_eq hg.symm)) hb); have n1_ := zA (qX BK101.out hb); have n2_ := zA (zV qB hb); have n3_ := zA (hbox); have n4_ := zA ((qS : w.heap.size ≤ gb102)); have n5_ := zA ((qS : w.heap.size ≤ gb102)); have n6_ := zA ((by rw [hg]; exact zLq (qL BK101.out) : gb101 ≠ gb102)); have n7_ := zA ((by rw [hg]; exact zMq (qL BK101.out) : gb102 ≠ gb101)); clear HO0_1 BK101 HB; have HO0_1 := n0_; have BK101 := n1_; have HB := n2_; have BK102 := n3_; have GW102 := n4_; have GE102 := n5_; have NB101_102 := n6_; have NB102_101 := n7_; clear n0_ n1_ n2_ n3_ n4_ n5_ n6_ n7_ hb hbox hg; have hnb56 := NB101_102.out; have hnc56 := NB102_101.out; obtain ⟨_, _, _, _⟩ := qc2f BK101.out) | ((with_reducible refine zJq (f := 85) rfl ?_); refine goesL_ (some 25) rfl rfl Try.func85 (by kernel_rfl) rfl #[.slice A0_0 l0_0.length c0_0, .string a1] rfl qG ?_; (with_reducible refine (serial_Find.calls k _ _ l0_0 a1 t103 true _ ?side1 ?side2 A14.out).mono ?_); (case side1 => exact qC (Kd.C_below HR0_0.out HB.out)); (case side2 => exact HC0_0.out); rintro e w58 ⟨rfl, hb⟩; refine ⟨_, rfl, ?_⟩; have n0_ := zA (Kd.V_below (by (with_reducible repeat (first | apply Kd.V_alloc | apply Kd.V_drewN | apply Kd.V_drew)); exact HO0_1.out) hb); have n1_ := zA (qX BK101.out hb); have n2_ := zA (qX BK102.out hb); have n3_ := zA (zV qB hb); clear HO0_1 BK101 BK102 HB; have HO0_1 := n0_; have BK101 := n1_; have BK102 := n2_; have HB := n3_; clear n0_ n1_ n2_ n3_; (try clear hb); obtain ⟨hcz59_0, hcz59_1, hfz59_0, hfz59_1⟩ := qc2f BK101.out; have p105 : 0 ≤ (t103 : Int) := of_decide_eq_true qA; have q105 : t103 < (l0_1.length : Int) := of_decide_eq_true qA; obtain ⟨ad105, A105_0, c105_0, e105, hx105_0, hl105_0, hi105_0⟩ := at_L14 (Kd.V_reads' HO0_1.out).2.2 t103 p105 q105; cases e105; obtain ⟨ce105, hce105, hMe105, hcc105⟩ := Kd.V_get HO0_1.out [] t103 p105 (by first | exact q105 | exact of_decide_eq_true qA | (have e_ := (Kd.V_reads' HO0_1.out).1; omega)); obtain ⟨ua105_0, uc105_0, rfl, ul105_0, ge105_0⟩ := Kd.FK_slice_open hMe105; have hv105_0 := hcc105 0 _ rfl; rw [Nat.add_zero, show ((Kd.slice 3 (Kd.int .i64))).sz = 1 from rfl, Nat.mul_one] at hv105_0; replace hv105_0 := zKq (hv105_0.symm.trans hx105_0); injection hv105_0 with hva_ hvn_ hvc_; rw [hva_] at ge105_0; rw [hvc_] at ul105_0; have HL105_0 := zA (show Kd.V (Kd.int .i64) 3 _ w.heap.size _ _ (rd_L14 l0_1 t103) from Kd.V_mk ul105_0 ge105_0); clear hva_ hvn_ hvc_ ge105_0 ul105_0 hcc105 hce105; have HR105_0 := zA hi105_0; have HC105_0 := zA hl105_0; clear hi105_0 hl105_0; replace p105 := eq_true p105; replace q105 := eq_true q105) | ((with_reducible refine zJq (f := 87) rfl ?_); refine goesL_ (some 37) rfl rfl Try.func87 (by kernel_rfl) rfl #[.slice A105_0 (rd_L14 l0_1 t103).length c105_0, .int .i64 a2] rfl qG ?_; (with_reducible refine (rows_Find.calls k _ _ (rd_L14 l0_1 t103) a2 t106 false _ ?side1 ?side2 A18.out).mono ?_); (case side1 => repeat (first | exact (by repeat (first | (with_reducible exact HR105_0.out) | (with_reducible refine Kd.C_alloc ?_ _) | (with_reducible refine Kd.C_drewN ?_ _) | (with_reducible refine Kd.C_drew ?_) | exact HR105_0.out)) | (with_reducible refine Kd.C_alloc ?_ _) | (with_reducible refine Kd.C_drewN ?_ _) | (with_reducible refine Kd.C_drew ?_))); (case side2 => exact HC105_0.out); rintro e w' ⟨rfl, ⟨nd, rfl⟩⟩; refine ⟨_, rfl, ?_⟩; (try (rw [drewN_self w58]; generalize hq_ : World.drewN w58 _ = w58; have n0_ : Aside0 (Kd.V (Kd.int .i64) 3 w58 w.heap.size (fun k_ => (P0_1_ k_ ∨ w.heap.size ≤ k_) ∧ k_ ≠ gb101 ∧ k_ ≠ gb102) (.slice A105_0 (rd_L14 l0_1 t103).length c105_0) (rd_L14 l0_1 t103)) := ⟨by rw [← hq_]; exact (by (with_reducible repeat (first | apply Kd.V_alloc | apply Kd.V_drewN | apply Kd.V_drew)); exact Kd.V_mono HL105_0.out (fun _ hk => ⟨hk.1.1, ⟨hk.1.2, hk.2⟩⟩))⟩; have n1_ : Aside0 (Kd.V (Kd.slice 3 (Kd.int .i64)) 44 w58 w.heap.size (fun k_ => (P0_1_ k_ ∨ w.heap.size ≤ k_) ∧ k_ ≠ gb101 ∧ k_ ≠ gb102) (.slice (some ad105) l0_1.length c0_1) l0_1) := ⟨by rw [← hq_]; exact (by (with_reducible repeat (first | apply Kd.V_alloc | apply Kd.V_drewN | apply Kd.V_drew)); exact Kd.V_mono HO0_1.out (fun _ hk => ⟨hk.1.1, ⟨hk.1.2, hk.2⟩⟩))⟩; have n2_ : Aside0 (w58.heap[gb101]? = some (.cells #[.slice A0_0 l0_0.length c0_0, .slice (some ad105) l0_1.length c0_1] 51 (0, 0))) := ⟨by rw [← hq_]; exact (qW BK101.out)⟩; have n3_ : Aside0 (w58.heap[gb102]? = some (.cells #[.slice none 0 0, .slice none 0 0] 51 (0, 0))) := ⟨by rw [← hq_]; exact (qW BK102.out)⟩; have n4_ : Aside0 (Below w.heap.size w w58) := ⟨by rw [← hq_]; exact qB⟩; have n5_ : Aside0 (Kd.C (Kd.int .i64) w58 A105_0 (rd_L14 l0_1 t103).length (rd_L14 l0_1 t103)) := ⟨by rw [← hq_]; exact (by repeat (first | (with_reducible exact HR105_0.out) | (with_reducible refine Kd.C_alloc ?_ _) | (with_reducible refine Kd.C_drewN ?_ _) | (with_reducible refine Kd.C_drew ?_) | exact HR105_0.out))⟩; clear HL105_0 HO0_1 BK101 BK102 HB HR105_0 hq_; have HL105_0 := n0_; have HO0_1 := n1_; have BK101 := n2_; have BK102 := n3_; have HB := n4_; have HR105_0 := n5_; clear n0_ n1_ n2_ n3_ n4_ n5_)); (try (obtain ⟨hcz59_0, hcz59_1, hfz59_0, hfz59_1⟩ := qc2f BK101.out))) | ((with_reducible refine zJq (f := 81) rfl ?_); refine goesL_ (some 45) rfl rfl Try.func81 (by kernel_rfl) rfl #[.agg #[.slice A0_0 l0_0.length c0_0, .slice (some ad105) l0_1.length c0_1]] rfl qG ?_; (with_reducible refine (index_pairs.calls k _ _ l0_0 _ _ l0_1 t108 _ ?side1 ?side2 ?side3 ?side4 A27.out).mono ?_); (case side1 => exact qC (Kd.C_below HR0_0.out HB.out)); (case side2 => exact HC0_0.out); (case side3 => repeat (first | exact (Kd.V_reads' HO0_1.out).2.2 | (with_reducible refine Kd.C_alloc ?_ _) | (with_reducible refine Kd.C_drewN ?_ _) | (with_reducible refine Kd.C_drew ?_))); (case side4 => exact (Kd.V_reads' HO0_1.out).2.1); rintro e w60 ⟨rfl, hb⟩; refine ⟨_, rfl, ?_⟩; have n0_ := zA (Kd.V_below (by (with_reducible repeat (first | apply Kd.V_alloc | apply Kd.V_drewN | apply Kd.V_drew)); exact HO0_1.out) hb); have n1_ := zA (Kd.V_below (by (with_reducible repeat (first | apply Kd.V_alloc | apply Kd.V_drewN | apply Kd.V_drew)); exact HL105_0.out) hb); have n2_ := zA (qX BK101.out hb); have n3_ := zA (qX BK102.out hb); have n4_ := zA (Kd.C_below (by repeat (first | (with_reducible exact HR105_0.out) | (with_reducible refine Kd.C_alloc ?_ _) | (with_reducible refine Kd.C_drewN ?_ _) | (with_reducible refine Kd.C_drew ?_) | exact HR105_0.out)) hb); have n5_ := zA (zV qB hb); clear HO0_1 HL105_0 BK101 BK102 HR105_0 HB; have HO0_1 := n0_; have HL105_0 := n1_; have BK101 := n2_; have BK102 := n3_; have HR105_0 := n4_; have HB := n5_; clear n0_ n1_ n2_ n3_ n4_ n5_; (try clear hb)) | ((with_reducible refine zJq (f := 135) rfl ?_); refine goesL_ (some 52) rfl rfl Try.func135 (by kernel_rfl) rfl #[.slice A105_0 (rd_L14 l0_1 t103).length c105_0, .int .i64 t106, .int .i64 a2] rfl qG ?_; (with_reducible refine (rows_With_int.calls _ _ (rd_L14 l0_1 t103) t106 a2 t109 t110 _ ?side1 ?side2 A37.out).mono ?_); (case side1 => repeat (first | exact (by repeat (first | (with_reducible exact HR105_0.out) | (with_reducible refine Kd.C_alloc ?_ _) | (with_reducible refine Kd.C_drewN ?_ _) | (with_reducible refine Kd.C_drew ?_) | exact HR105_0.out)) | (with_reducible refine Kd.C_alloc ?_ _) | (with_reducible refine Kd.C_drewN ?_ _) | (with_reducible refine Kd.C_drew ?_))); (case side2 => exact HC105_0.out); rintro e w61 ⟨v111, rfl, ho0, hb⟩; refine ⟨_, rfl, ?_⟩; have n0_ := zA (Kd.V_elder' (by (with_reducible repeat (first | apply Kd.V_alloc | apply Kd.V_drewN | apply Kd.V_drew)); exact HO0_1.out) (Kd.R_base ho0) hb); have n1_ := zA (Kd.V_elder' (by (with_reducible repeat (first | apply Kd.V_alloc | apply Kd.V_drewN | apply Kd.V_drew)); exact HL105_0.out) (Kd.R_base ho0) hb); have n2_ := zA (Kd.R_lower (Kd.R_newM (M := fun k_ => (w.heap.size ≤ k_)) ho0 (zW qB) (fun k_ h_ => h_)) (zW qB)); have n3_ := zA (qX BK101.out hb); have n4_ := zA (qX BK102.out hb); have n5_ := zA (Kd.C_below (by repeat (first | (with_reducible exact HR105_0.out) | (with_reducible refine Kd.C_alloc ?_ _) | (with_reducible refine Kd.C_drewN ?_ _) | (with_reducible refine Kd.C_drew ?_) | exact HR105_0.out)) hb); have n6_ := zA (zV qB hb); clear HO0_1 HL105_0 BK101 BK102 HR105_0 HB; have HO0_1 := n0_; have HL105_0 := n1_; have HO112 := n2_; have BK101 := n3_; have BK102 := n4_; have HR105_0 := n5_; have HB := n6_; clear n0_ n1_ n2_ n3_ n4_ n5_ n6_; (try clear hb); (try clear ho0); obtain ⟨_, _, _, _⟩ := qc2f BK102.out))
        refine bodyPost_ret (results_ct rfl _ _ gb102 51 #[.slice none 0 0, .slice none 0 0] (0, 0) _ rfl (qV BK102.out) Try.underlying51 rfl (by kernel_rfl)) rfl ?_; exact ⟨_, _, qE, qN, by first | exact Kd.S_nil _ _ _ _ _ | exact Kd.N_nil _ _ _ _ _ | exact Kd.V_nil _ _ _ _ _ | exact Kd.Q_nil _ _ _ _ _ | exact Kd.R_nil _ _ _ _ _, qB⟩
      rw [if_neg c17] at H; exact absurd H (by simp)
    rw [if_neg c16] at H; exact absurd H (by simp)
  replace c15 := Bool.eq_false_iff.mpr c15
  subst c15
  have H1 : ((rows_Find.f k ([] : List Int) a2).bind fun bt119 => (if bt119.2 = true then (some (([] : List ByteArray), ([] : List (List Int)), 32)) else ((index_pairs.f k l0_0 l0_1).bind fun t121 => (if t121 ≥ 2000 then (some (([] : List ByteArray), ([] : List (List Int)), 37)) else ((rows_With_int.f ([] : List Int) bt119.1 a2).bind fun bt122 => (if bt122.2 = 0 then ((index_put.f l0_0 l0_1 t103 false a1 bt122.1).bind fun bt126 => (some (bt126.1, bt126.2, 0))) else (some (([] : List ByteArray), ([] : List (List Int)), bt122.2)))))))) = some (r1, r2, r3) := by first | (rw [if_neg (show ¬ (false = true) by decide)] at H; exact H) | rfl
  clear H
  have H := H1
  clear H1
  replace H := Option.bind_eq_some_iff.mp H
  obtain ⟨⟨t119, t120⟩, A630, H⟩ := H
  try dsimp only at H
  have A63 := zA A630
  clear A630
  by_cases c64 : t120 = true
  · subst c64
    have H1 : (some (([] : List ByteArray), ([] : List (List Int)), 32)) = some (r1, r2, r3) := by first | (rw [if_pos rfl] at H; exact H) | rfl
    clear H; have H := H1; clear H1; simp only [zNq, zOq] at H; obtain ⟨rfl, rfl, rfl⟩ := H; go_enter Try.func88, Try.ntmps88; go_wp2_with (first | ((with_reducible refine gate_dst (N := 3) rfl ?_); refine box_event qr (N := 3) qr (cs := #[.slice A0_0 l0_0.length c0_0, .slice A0_1 l0_1.length c0_1]) (t := 51) qg ?_; intro gb101 hg w65 hbox hb; have n0_ := zA (Kd.V_below (Kd.V_elderB (by (with_reducible repeat (first | apply Kd.V_alloc | apply Kd.V_drewN | apply Kd.V_drew)); exact HO0_1.out) gb101 (Nat.le_of_eq hg.symm)) hb); have n1_ := zA (zV qB hb); have n2_ := zA (hbox); have n3_ := zA ((qS : w.heap.size ≤ gb101)); have n4_ := zA ((qS : w.heap.size ≤ gb101)); clear HO0_1 HB; have HO0_1 := n0_; have HB := n1_; have BK101 := n2_; have GW101 := n3_; have GE101 := n4_; clear n0_ n1_ n2_ n3_ n4_ hb hbox hg) | ((with_reducible refine gate_dst (N := 6) rfl ?_); refine box_event qr (N := 6) qr (cs := #[.slice none 0 0, .slice none 0 0]) (t := 51) qg ?_; intro gb102 hg w66 hbox hb; have n0_ := zA (Kd.V_below (Kd.V_elderB (by (with_reducible repeat (first | apply Kd.V_alloc | apply Kd.V_drewN | apply Kd.V_drew)); exact HO0_1.out) gb102 (Nat.le_of_eq hg.symm)) hb); have n1_ := zA (qX BK101.out hb); have n2_ := zA (zV qB hb); have n3_ := zA (hbox); have n4_ := zA ((qS : w.heap.size ≤ gb102)); have n5_ := zA ((qS : w.heap.size ≤ gb102)); have n6_ := zA ((by rw [hg]; exact zLq (qL BK101.out) : gb101 ≠ gb102)); have n7_ := zA ((by rw [hg]; exact zMq (qL BK101.out) : gb102 ≠ gb101)); clear HO0_1 BK101 HB; have HO0_1 := n0_; have BK101 := n1_; have HB := n2_; have BK102 := n3_; have GW102 := n4_; have GE102 := n5_; have NB101_102 := n6_; have NB102_101 := n7_; clear n0_ n1_ n2_ n3_ n4_ n5_ n6_ n7_ hb hbox hg; have hnb67 := NB101_102.out; have hnc67 := NB102_101.out; obtain ⟨_, _, _, _⟩ := qc2f BK101.out) | ((with_reducible refine zJq (f := 85) rfl ?_); refine goesL_ (some 25) rfl rfl Try.func85 (by kernel_rfl) rfl #[.slice A0_0 l0_0.length c0_0, .string a1] rfl qG ?_; (with_reducible refine (serial_Find.calls k _ _ l0_0 a1 t103 false _ ?side1 ?side2 A14.out).mono ?_); (case side1 => exact qC (Kd.C_below HR0_0.out HB.out)); (case side2 => exact HC0_0.out); rintro e w69 ⟨rfl, hb⟩; refine ⟨_, rfl, ?_⟩; have n0_ := zA (Kd.V_below (by (with_reducible repeat (first | apply Kd.V_alloc | apply Kd.V_drewN | apply Kd.V_drew)); exact HO0_1.out) hb); have n1_ := zA (qX BK101.out hb); have n2_ := zA (qX BK102.out hb); have n3_ := zA (zV qB hb); clear HO0_1 BK101 BK102 HB; have HO0_1 := n0_; have BK101 := n1_; have BK102 := n2_; have HB := n3_; clear n0_ n1_ n2_ n3_; (try clear hb)) | ((with_reducible refine zJq (f := 87) rfl ?_); refine goesL_ (some 37) rfl rfl Try.func87 (by kernel_rfl) rfl #[.slice none 0 0, .int .i64 a2] rfl qG ?_; (refine (rows_Find.calls k _ _ ([] : List Int) a2 t119 true _ ?side1 ?side2 A63.out).mono ?_); (case side1 => exact Kd.C_nil _ _); (case side2 => exact Nat.le_refl _); rintro e w' ⟨rfl, ⟨nd, rfl⟩⟩; refine ⟨_, rfl, ?_⟩; (try (rw [drewN_self w69]; generalize hq_ : World.drewN w69 _ = w69; have n0_ : Aside0 (Kd.V (Kd.slice 3 (Kd.int .i64)) 44 w69 w.heap.size (fun k_ => (P0_1_ k_ ∨ w.heap.size ≤ k_) ∧ k_ ≠ gb101 ∧ k_ ≠ gb102) (.slice A0_1 l0_1.length c0_1) l0_1) := ⟨by rw [← hq_]; exact (by (with_reducible repeat (first | apply Kd.V_alloc | apply Kd.V_drewN | apply Kd.V_drew)); exact Kd.V_mono HO0_1.out (fun _ hk => ⟨hk.1.1, ⟨hk.1.2, hk.2⟩⟩))⟩; have n1_ : Aside0 (w69.heap[gb101]? = some (.cells #[.slice A0_0 l0_0.length c0_0, .slice A0_1 l0_1.length c0_1] 51 (0, 0))) := ⟨by rw [← hq_]; exact (qW BK101.out)⟩; have n2_ : Aside0 (w69.heap[gb102]? = some (.cells #[.slice none 0 0, .slice none 0 0] 51 (0, 0))) := ⟨by rw [← hq_]; exact (qW BK102.out)⟩; have n3_ : Aside0 (Below w.heap.size w w69) := ⟨by rw [← hq_]; exact qB⟩; clear HO0_1 BK101 BK102 HB hq_; have HO0_1 := n0_; have BK101 := n1_; have BK102 := n2_; have HB := n3_; clear n0_ n1_ n2_ n3_)); obtain ⟨_, _, _, _⟩ := qc2f BK102.out))
    refine bodyPost_ret (results_ct rfl _ _ gb102 51 #[.slice none 0 0, .slice none 0 0] (0, 0) _ rfl (qV BK102.out) Try.underlying51 rfl (by kernel_rfl)) rfl ?_; exact ⟨_, _, qE, qN, by first | exact Kd.S_nil _ _ _ _ _ | exact Kd.N_nil _ _ _ _ _ | exact Kd.V_nil _ _ _ _ _ | exact Kd.Q_nil _ _ _ _ _ | exact Kd.R_nil _ _ _ _ _, qB⟩
  replace c64 := Bool.eq_false_iff.mpr c64
  subst c64
  have H1 : ((index_pairs.f k l0_0 l0_1).bind fun t121 => (if t121 ≥ 2000 then (some (([] : List ByteArray), ([] : List (List Int)), 37)) else ((rows_With_int.f ([] : List Int) t119 a2).bind fun bt122 => (if bt122.2 = 0 then ((index_put.f l0_0 l0_1 t103 false a1 bt122.1).bind fun bt126 => (some (bt126.1, bt126.2, 0))) else (some (([] : List ByteArray), ([] : List (List Int)), bt122.2)))))) = some (r1, r2, r3) := by first | (rw [if_neg (show ¬ (false = true) by decide)] at H; exact H) | rfl
  clear H
  have H := H1
  clear H1
  replace H := Option.bind_eq_some_iff.mp H
  obtain ⟨t121, A710, H⟩ := H
  try dsimp only at H
  have A71 := zA A710
  clear A710
  by_cases c72 : t121 ≥ 2000
  · rw [if_pos c72] at H
    have c72b0 : decide (2000 ≤ t121) = true := zFq c72; clear c72; simp only [zNq, zOq] at H; obtain ⟨rfl, rfl, rfl⟩ := H; go_enter Try.func88, Try.ntmps88; go_wp2_with (first | ((with_reducible refine gate_dst (N := 3) rfl ?_); refine box_event qr (N := 3) qr (cs := #[.slice A0_0 l0_0.length c0_0, .slice A0_1 l0_1.length c0_1]) (t := 51) qg ?_; intro gb101 hg w73 hbox hb; have n0_ := zA (Kd.V_below (Kd.V_elderB (by (with_reducible repeat (first | apply Kd.V_alloc | apply Kd.V_drewN | apply Kd.V_drew)); exact HO0_1.out) gb101 (Nat.le_of_eq hg.symm)) hb); have n1_ := zA (zV qB hb); have n2_ := zA (hbox); have n3_ := zA ((qS : w.heap.size ≤ gb101)); have n4_ := zA ((qS : w.heap.size ≤ gb101)); clear HO0_1 HB; have HO0_1 := n0_; have HB := n1_; have BK101 := n2_; have GW101 := n3_; have GE101 := n4_; clear n0_ n1_ n2_ n3_ n4_ hb hbox hg) | ((with_reducible refine gate_dst (N := 6) rfl ?_); refine box_event qr (N := 6) qr (cs := #[.slice none 0 0, .slice none 0 0]) (t := 51) qg ?_; intro gb102 hg w74 hbox hb; have n0_ := zA (Kd.V_below (Kd.V_elderB (by (with_reducible repeat (first | apply Kd.V_alloc | apply Kd.V_drewN | apply Kd.V_drew)); exact HO0_1.out) gb102 (Nat.le_of_eq hg.symm)) hb); have n1_ := zA (qX BK101.out hb); have n2_ := zA (zV qB hb); have n3_ := zA (hbox); have n4_ := zA ((qS : w.heap.size ≤ gb102)); have n5_ := zA ((qS : w.heap.size ≤ gb102)); have n6_ := zA ((by rw [hg]; exact zLq (qL BK101.out) : gb101 ≠ gb102)); have n7_ := zA ((by rw [hg]; exact zMq (qL BK101.out) : gb102 ≠ gb101)); clear HO0_1 BK101 HB; have HO0_1 := n0_; have BK101 := n1_; have HB := n2_; have BK102 := n3_; have GW102 := n4_; have GE102 := n5_; have NB101_102 := n6_; have NB102_101 := n7_; clear n0_ n1_ n2_ n3_ n4_ n5_ n6_ n7_ hb hbox hg; have hnb75 := NB101_102.out; have hnc75 := NB102_101.out; obtain ⟨_, _, _, _⟩ := qc2f BK101.out) | ((with_reducible refine zJq (f := 85) rfl ?_); refine goesL_ (some 25) rfl rfl Try.func85 (by kernel_rfl) rfl #[.slice A0_0 l0_0.length c0_0, .string a1] rfl qG ?_; (with_reducible refine (serial_Find.calls k _ _ l0_0 a1 t103 false _ ?side1 ?side2 A14.out).mono ?_); (case side1 => exact qC (Kd.C_below HR0_0.out HB.out)); (case side2 => exact HC0_0.out); rintro e w77 ⟨rfl, hb⟩; refine ⟨_, rfl, ?_⟩; have n0_ := zA (Kd.V_below (by (with_reducible repeat (first | apply Kd.V_alloc | apply Kd.V_drewN | apply Kd.V_drew)); exact HO0_1.out) hb); have n1_ := zA (qX BK101.out hb); have n2_ := zA (qX BK102.out hb); have n3_ := zA (zV qB hb); clear HO0_1 BK101 BK102 HB; have HO0_1 := n0_; have BK101 := n1_; have BK102 := n2_; have HB := n3_; clear n0_ n1_ n2_ n3_; (try clear hb)) | ((with_reducible refine zJq (f := 87) rfl ?_); refine goesL_ (some 37) rfl rfl Try.func87 (by kernel_rfl) rfl #[.slice none 0 0, .int .i64 a2] rfl qG ?_; (refine (rows_Find.calls k _ _ ([] : List Int) a2 t119 false _ ?side1 ?side2 A63.out).mono ?_); (case side1 => exact Kd.C_nil _ _); (case side2 => exact Nat.le_refl _); rintro e w' ⟨rfl, ⟨nd, rfl⟩⟩; refine ⟨_, rfl, ?_⟩; (try (rw [drewN_self w77]; generalize hq_ : World.drewN w77 _ = w77; have n0_ : Aside0 (Kd.V (Kd.slice 3 (Kd.int .i64)) 44 w77 w.heap.size (fun k_ => (P0_1_ k_ ∨ w.heap.size ≤ k_) ∧ k_ ≠ gb101 ∧ k_ ≠ gb102) (.slice A0_1 l0_1.length c0_1) l0_1) := ⟨by rw [← hq_]; exact (by (with_reducible repeat (first | apply Kd.V_alloc | apply Kd.V_drewN | apply Kd.V_drew)); exact Kd.V_mono HO0_1.out (fun _ hk => ⟨hk.1.1, ⟨hk.1.2, hk.2⟩⟩))⟩; have n1_ : Aside0 (w77.heap[gb101]? = some (.cells #[.slice A0_0 l0_0.length c0_0, .slice A0_1 l0_1.length c0_1] 51 (0, 0))) := ⟨by rw [← hq_]; exact (qW BK101.out)⟩; have n2_ : Aside0 (w77.heap[gb102]? = some (.cells #[.slice none 0 0, .slice none 0 0] 51 (0, 0))) := ⟨by rw [← hq_]; exact (qW BK102.out)⟩; have n3_ : Aside0 (Below w.heap.size w w77) := ⟨by rw [← hq_]; exact qB⟩; clear HO0_1 BK101 BK102 HB hq_; have HO0_1 := n0_; have BK101 := n1_; have BK102 := n2_; have HB := n3_; clear n0_ n1_ n2_ n3_)); obtain ⟨_, _, _, _⟩ := qc2f BK101.out) | ((with_reducible refine zJq (f := 81) rfl ?_); refine goesL_ (some 45) rfl rfl Try.func81 (by kernel_rfl) rfl #[.agg #[.slice A0_0 l0_0.length c0_0, .slice A0_1 l0_1.length c0_1]] rfl qG ?_; (with_reducible refine (index_pairs.calls k _ _ l0_0 _ _ l0_1 t121 _ ?side1 ?side2 ?side3 ?side4 A71.out).mono ?_); (case side1 => exact qC (Kd.C_below HR0_0.out HB.out)); (case side2 => exact HC0_0.out); (case side3 => repeat (first | exact (Kd.V_reads' HO0_1.out).2.2 | (with_reducible refine Kd.C_alloc ?_ _) | (with_reducible refine Kd.C_drewN ?_ _) | (with_reducible refine Kd.C_drew ?_))); (case side4 => exact (Kd.V_reads' HO0_1.out).2.1); rintro e w79 ⟨rfl, hb⟩; refine ⟨_, rfl, ?_⟩; have n0_ := zA (Kd.V_below (by (with_reducible repeat (first | apply Kd.V_alloc | apply Kd.V_drewN | apply Kd.V_drew)); exact HO0_1.out) hb); have n1_ := zA (qX BK101.out hb); have n2_ := zA (qX BK102.out hb); have n3_ := zA (zV qB hb); clear HO0_1 BK101 BK102 HB; have HO0_1 := n0_; have BK101 := n1_; have BK102 := n2_; have HB := n3_; clear n0_ n1_ n2_ n3_; (try clear hb); obtain ⟨_, _, _, _⟩ := qc2f BK102.out))
    refine bodyPost_ret (results_ct rfl _ _ gb102 51 #[.slice none 0 0, .slice none 0 0] (0, 0) _ rfl (qV BK102.out) Try.underlying51 rfl (by kernel_rfl)) rfl ?_; exact ⟨_, _, qE, qN, by first | exact Kd.S_nil _ _ _ _ _ | exact Kd.N_nil _ _ _ _ _ | exact Kd.V_nil _ _ _ _ _ | exact Kd.Q_nil _ _ _ _ _ | exact Kd.R_nil _ _ _ _ _, qB⟩
  rw [if_neg c72] at H
  have c72b0 : decide (2000 ≤ t121) = false := zGq c72
  clear c72
  replace H := Option.bind_eq_some_iff.mp H
  obtain ⟨⟨t122, t123⟩, A810, H⟩ := H
  try dsimp only at H
  have A81 := zA A810
  clear A810
  by_cases c82 : t123 = 0
  · rw [if_pos c82] at H
    have c82b0 : (t123 == 0) = true := beq_iff_eq.mpr c82; have c82b1 : (t123 != 0) = false := bne_eq_false_iff_eq.mpr c82; clear c82; replace H := Option.bind_eq_some_iff.mp H; obtain ⟨⟨t126, t129⟩, A830, H⟩ := H; try dsimp only at H
    have A83 := zA A830; clear A830; simp only [zNq, zOq] at H; obtain ⟨rfl, rfl, rfl⟩ := H; go_enter Try.func88, Try.ntmps88; go_wp2_with (first | ((with_reducible refine gate_dst (N := 3) rfl ?_); refine box_event qr (N := 3) qr (cs := #[.slice A0_0 l0_0.length c0_0, .slice A0_1 l0_1.length c0_1]) (t := 51) qg ?_; intro gb101 hg w84 hbox hb; have n0_ := zA (Kd.V_below (Kd.V_elderB (by (with_reducible repeat (first | apply Kd.V_alloc | apply Kd.V_drewN | apply Kd.V_drew)); exact HO0_1.out) gb101 (Nat.le_of_eq hg.symm)) hb); have n1_ := zA (zV qB hb); have n2_ := zA (hbox); have n3_ := zA ((qS : w.heap.size ≤ gb101)); have n4_ := zA ((qS : w.heap.size ≤ gb101)); clear HO0_1 HB; have HO0_1 := n0_; have HB := n1_; have BK101 := n2_; have GW101 := n3_; have GE101 := n4_; clear n0_ n1_ n2_ n3_ n4_ hb hbox hg) | ((with_reducible refine gate_dst (N := 6) rfl ?_); refine box_event qr (N := 6) qr (cs := #[.slice none 0 0, .slice none 0 0]) (t := 51) qg ?_; intro gb102 hg w85 hbox hb; have n0_ := zA (Kd.V_below (Kd.V_elderB (by (with_reducible repeat (first | apply Kd.V_alloc | apply Kd.V_drewN | apply Kd.V_drew)); exact HO0_1.out) gb102 (Nat.le_of_eq hg.symm)) hb); have n1_ := zA (qX BK101.out hb); have n2_ := zA (zV qB hb); have n3_ := zA (hbox); have n4_ := zA ((qS : w.heap.size ≤ gb102)); have n5_ := zA ((qS : w.heap.size ≤ gb102)); have n6_ := zA ((by rw [hg]; exact zLq (qL BK101.out) : gb101 ≠ gb102)); have n7_ := zA ((by rw [hg]; exact zMq (qL BK101.out) : gb102 ≠ gb101)); clear HO0_1 BK101 HB; have HO0_1 := n0_; have BK101 := n1_; have HB := n2_; have BK102 := n3_; have GW102 := n4_; have GE102 := n5_; have NB101_102 := n6_; have NB102_101 := n7_; clear n0_ n1_ n2_ n3_ n4_ n5_ n6_ n7_ hb hbox hg; have hnb86 := NB101_102.out; have hnc86 := NB102_101.out; obtain ⟨_, _, _, _⟩ := qc2f BK101.out) | ((with_reducible refine zJq (f := 85) rfl ?_); refine goesL_ (some 25) rfl rfl Try.func85 (by kernel_rfl) rfl #[.slice A0_0 l0_0.length c0_0, .string a1] rfl qG ?_; (with_reducible refine (serial_Find.calls k _ _ l0_0 a1 t103 false _ ?side1 ?side2 A14.out).mono ?_); (case side1 => exact qC (Kd.C_below HR0_0.out HB.out)); (case side2 => exact HC0_0.out); rintro e w88 ⟨rfl, hb⟩; refine ⟨_, rfl, ?_⟩; have n0_ := zA (Kd.V_below (by (with_reducible repeat (first | apply Kd.V_alloc | apply Kd.V_drewN | apply Kd.V_drew)); exact HO0_1.out) hb); have n1_ := zA (qX BK101.out hb); have n2_ := zA (qX BK102.out hb); have n3_ := zA (zV qB hb); clear HO0_1 BK101 BK102 HB; have HO0_1 := n0_; have BK101 := n1_; have BK102 := n2_; have HB := n3_; clear n0_ n1_ n2_ n3_; (try clear hb)) | ((with_reducible refine zJq (f := 87) rfl ?_); refine goesL_ (some 37) rfl rfl Try.func87 (by kernel_rfl) rfl #[.slice none 0 0, .int .i64 a2] rfl qG ?_; (refine (rows_Find.calls k _ _ ([] : List Int) a2 t119 false _ ?side1 ?side2 A63.out).mono ?_); (case side1 => exact Kd.C_nil _ _); (case side2 => exact Nat.le_refl _); rintro e w' ⟨rfl, ⟨nd, rfl⟩⟩; refine ⟨_, rfl, ?_⟩; (try (rw [drewN_self w88]; generalize hq_ : World.drewN w88 _ = w88; have n0_ : Aside0 (Kd.V (Kd.slice 3 (Kd.int .i64)) 44 w88 w.heap.size (fun k_ => (P0_1_ k_ ∨ w.heap.size ≤ k_) ∧ k_ ≠ gb101 ∧ k_ ≠ gb102) (.slice A0_1 l0_1.length c0_1) l0_1) := ⟨by rw [← hq_]; exact (by (with_reducible repeat (first | apply Kd.V_alloc | apply Kd.V_drewN | apply Kd.V_drew)); exact Kd.V_mono HO0_1.out (fun _ hk => ⟨hk.1.1, ⟨hk.1.2, hk.2⟩⟩))⟩; have n1_ : Aside0 (w88.heap[gb101]? = some (.cells #[.slice A0_0 l0_0.length c0_0, .slice A0_1 l0_1.length c0_1] 51 (0, 0))) := ⟨by rw [← hq_]; exact (qW BK101.out)⟩; have n2_ : Aside0 (w88.heap[gb102]? = some (.cells #[.slice none 0 0, .slice none 0 0] 51 (0, 0))) := ⟨by rw [← hq_]; exact (qW BK102.out)⟩; have n3_ : Aside0 (Below w.heap.size w w88) := ⟨by rw [← hq_]; exact qB⟩; clear HO0_1 BK101 BK102 HB hq_; have HO0_1 := n0_; have BK101 := n1_; have BK102 := n2_; have HB := n3_; clear n0_ n1_ n2_ n3_)); obtain ⟨_, _, _, _⟩ := qc2f BK101.out) | ((with_reducible refine zJq (f := 81) rfl ?_); refine goesL_ (some 45) rfl rfl Try.func81 (by kernel_rfl) rfl #[.agg #[.slice A0_0 l0_0.length c0_0, .slice A0_1 l0_1.length c0_1]] rfl qG ?_; (with_reducible refine (index_pairs.calls k _ _ l0_0 _ _ l0_1 t121 _ ?side1 ?side2 ?side3 ?side4 A71.out).mono ?_); (case side1 => exact qC (Kd.C_below HR0_0.out HB.out)); (case side2 => exact HC0_0.out); (case side3 => repeat (first | exact (Kd.V_reads' HO0_1.out).2.2 | (with_reducible refine Kd.C_alloc ?_ _) | (with_reducible refine Kd.C_drewN ?_ _) | (with_reducible refine Kd.C_drew ?_))); (case side4 => exact (Kd.V_reads' HO0_1.out).2.1); rintro e w90 ⟨rfl, hb⟩; refine ⟨_, rfl, ?_⟩; have n0_ := zA (Kd.V_below (by (with_reducible repeat (first | apply Kd.V_alloc | apply Kd.V_drewN | apply Kd.V_drew)); exact HO0_1.out) hb); have n1_ := zA (qX BK101.out hb); have n2_ := zA (qX BK102.out hb); have n3_ := zA (zV qB hb); clear HO0_1 BK101 BK102 HB; have HO0_1 := n0_; have BK101 := n1_; have BK102 := n2_; have HB := n3_; clear n0_ n1_ n2_ n3_; (try clear hb)) | ((with_reducible refine zJq (f := 135) rfl ?_); refine goesL_ (some 52) rfl rfl Try.func135 (by kernel_rfl) rfl #[.slice none 0 0, .int .i64 t119, .int .i64 a2] rfl qG ?_; (refine (rows_With_int.calls _ _ ([] : List Int) t119 a2 t122 t123 _ ?side1 ?side2 A81.out).mono ?_); (case side1 => exact Kd.C_nil _ _); (case side2 => exact Nat.le_refl _); rintro e w91 ⟨v124, rfl, ho0, hb⟩; refine ⟨_, rfl, ?_⟩; have n0_ := zA (Kd.V_elder' (by (with_reducible repeat (first | apply Kd.V_alloc | apply Kd.V_drewN | apply Kd.V_drew)); exact HO0_1.out) (Kd.R_base ho0) hb); have n1_ := zA (Kd.R_lower (Kd.R_newM (M := fun k_ => (w.heap.size ≤ k_)) ho0 (zW qB) (fun k_ h_ => h_)) (zW qB)); have n2_ := zA (qX BK101.out hb); have n3_ := zA (qX BK102.out hb); have n4_ := zA (zV qB hb); clear HO0_1 BK101 BK102 HB; have HO0_1 := n0_; have HO125 := n1_; have BK101 := n2_; have BK102 := n3_; have HB := n4_; clear n0_ n1_ n2_ n3_ n4_; (try clear hb); (try clear ho0); obtain ⟨_, _, _, _⟩ := qc2f BK101.out; obtain ⟨Ao93, co93, eo93⟩ := Kd.R_slice HO125.out; subst eo93) | ((with_reducible refine zJq (f := 90) rfl ?_); refine goesL_ (some 64) rfl rfl Try.func90 (by kernel_rfl) rfl #[.agg #[.slice A0_0 l0_0.length c0_0, .slice A0_1 l0_1.length c0_1], .int .i64 t103, .bool false, .string a1, .slice Ao93 t122.length co93] rfl qG ?_; (with_reducible refine (index_put.calls _ _ l0_0 (fun k_ => ((((P0_1_ k_ ∨ w.heap.size ≤ k_) ∧ k_ ≠ gb101) ∧ k_ ≠ gb102) ∧ some k_ ≠ (.slice Ao93 t122.length co93 : Value).ownBlock)) _ _ l0_1 t103 false a1 (fun k_ => some k_ = (.slice Ao93 t122.length co93 : Value).ownBlock) _ _ t122 t126 t129 _ ?side1 ?side2 ?side3 ?side4 A83.out).mono ?_); (case side1 => exact qC (Kd.C_below HR0_0.out HB.out)); (case side2 => exact HC0_0.out); (case side3 => first | exact HO0_1.out | exact Kd.V_mono HO0_1.out (fun _ hk => by simp only [and_assoc] at hk ⊢; exact hk)); (case side4 => exact Kd.R_V (Kd.R_tight rfl (Kd.R_types (Kd.R_types (HO125.out) BK101.out (by decide)) BK102.out (by decide)))); rintro e w94 ⟨v127, v130, rfl, ho0, ho1, hb⟩; refine ⟨_, rfl, ?_⟩; have n0_ := zA (Kd.V_mono (Kd.V_told (Kd.V_told (Kd.V_old (by (with_reducible repeat (first | apply Kd.V_alloc | apply Kd.V_drewN | apply Kd.V_drew)); exact HO0_1.out) hb) (Kd.R_base ho0)) (Kd.N_base ho1)) (fun _ h_ => h_.1)); have n1_ := zA (Kd.R_below (by (with_reducible repeat (first | apply Kd.R_alloc | apply Kd.R_drewN | apply Kd.R_drew)); exact HO125.out) hb); have n2_ := zA (Kd.R_lower (Kd.R_newM (M := fun k_ => (w.heap.size ≤ k_)) (Kd.R_mono (ok' := fun k_ => True) ho0 (fun _ hk_ => trivial)) (zW qB) (fun k_ h_ => h_)) (zW qB)); have n3_ := zA (Kd.N_lower (Kd.N_mono (ok' := fun k_ => (P0_1_ k_ ∨ w.heap.size ≤ k_) ∧ some k_ ≠ (v127 : Value).ownBlock ∧ k_ ≠ gb101 ∧ k_ ≠ gb102) ho1 (fun k_ hk_ => ⟨Or.elim hk_.1 (fun hs_ => Or.elim hs_ (fun hs_ => hs_.1.1.1) (fun hs_ => (.inr (((Kd.R_types (Kd.R_types (HO125.out) BK101.out (by decide)) BK102.out (by decide)).1 k_ hs_.symm).1.1.1)))) (fun hn_ => (.inr (Nat.le_trans (zW qB) hn_))), hk_.2, Or.elim hk_.1 (fun hs_ => Or.elim hs_ (fun hs_ => hs_.1.1.2) (fun hs_ => ((Kd.R_types (Kd.R_types (HO125.out) BK101.out (by decide)) BK102.out (by decide)).1 k_ hs_.symm).1.2)) (fun hn_ => (Kd.freshB (g := gb101) (o := .cells #[.slice A0_0 l0_0.length c0_0, .slice A0_1 l0_1.length c0_1] 51 (0, 0)) (qW BK101.out) k_ hn_)), Or.elim hk_.1 (fun hs_ => Or.elim hs_ (fun hs_ => hs_.1.2) (fun hs_ => ((Kd.R_types (Kd.R_types (HO125.out) BK101.out (by decide)) BK102.out (by decide)).1 k_ hs_.symm).2)) (fun hn_ => (Kd.freshB (g := gb102) (o := .cells #[.slice none 0 0, .slice none 0 0] 51 (0, 0)) (qW BK102.out) k_ hn_))⟩)) (zW qB)); have n4_ := zA (qX BK101.out hb); have n5_ := zA (qX BK102.out hb); have n6_ := zA (zV qB hb); clear HO0_1 HO125 BK101 BK102 HB; have HO0_1 := n0_; have HO125 := n1_; have HO128 := n2_; have HO131 := n3_; have BK101 := n4_; have BK102 := n5_; have HB := n6_; clear n0_ n1_ n2_ n3_ n4_ n5_ n6_; (try clear hb); (try clear ho0); (try clear ho1); obtain ⟨Ao95, co95, eo95⟩ := Kd.R_slice HO128.out; subst eo95; obtain ⟨_, _, _, _⟩ := qc2f BK102.out; obtain ⟨Ao97, co97, eo97⟩ := Kd.N_slice HO131.out; subst eo97))
    refine bodyPost_ret (results_ct rfl _ _ gb102 51 #[.slice Ao95 t126.length co95, .slice Ao97 t129.length co97] (0, 0) _ rfl (qV BK102.out) Try.underlying51 rfl (by kernel_rfl)) rfl ?_; exact ⟨_, _, qE, by (with_reducible repeat (first | apply Kd.R_alloc | apply Kd.R_drewN | apply Kd.R_drew)); exact Kd.R_mono (Kd.R_far (p := ⟨gb102, 1, none⟩) (Kd.R_far (p := ⟨gb102, 0, none⟩) (Kd.R_types HO128.out BK102.out (by decide)) (fun _ hk => hk.2) (.slice Ao95 t126.length co95)) (fun _ hk => hk.2) (.slice Ao97 t129.length co97)) (fun _ hk => hk.1.1), by (with_reducible repeat (first | apply Kd.N_alloc | apply Kd.N_drewN | apply Kd.N_drew)); exact Kd.N_mono (Kd.N_far (p := ⟨gb102, 1, none⟩) (Kd.N_far (p := ⟨gb102, 0, none⟩) (Kd.N_mono HO131.out (fun k_ hk => (⟨hk, hk.2.2.2⟩ : _ ∧ k_ ≠ gb102))) (fun _ hk => hk.2) (.slice Ao95 t126.length co95)) (fun _ hk => hk.2) (.slice Ao97 t129.length co97)) (fun _ hk => ⟨hk.1.1, hk.1.2.1⟩), qB⟩
  rw [if_neg c82] at H
  have c82b0 : (t123 == 0) = false := beq_eq_false_iff_ne.mpr c82
  have c82b1 : (t123 != 0) = true := bne_iff_ne.mpr c82
  simp only [zNq, zOq] at H
  obtain ⟨rfl, rfl, rfl⟩ := H
  go_enter Try.func88, Try.ntmps88
  go_wp2_with (first | ((with_reducible refine gate_dst (N := 3) rfl ?_); refine box_event qr (N := 3) qr (cs := #[.slice A0_0 l0_0.length c0_0, .slice A0_1 l0_1.length c0_1]) (t := 51) qg ?_; intro gb101 hg w98 hbox hb; have n0_ := zA (Kd.V_below (Kd.V_elderB (by (with_reducible repeat (first | apply Kd.V_alloc | apply Kd.V_drewN | apply Kd.V_drew)); exact HO0_1.out) gb101 (Nat.le_of_eq hg.symm)) hb); have n1_ := zA (zV qB hb); have n2_ := zA (hbox); have n3_ := zA ((qS : w.heap.size ≤ gb101)); have n4_ := zA ((qS : w.heap.size ≤ gb101)); clear HO0_1 HB; have HO0_1 := n0_; have HB := n1_; have BK101 := n2_; have GW101 := n3_; have GE101 := n4_; clear n0_ n1_ n2_ n3_ n4_ hb hbox hg) | ((with_reducible refine gate_dst (N := 6) rfl ?_); refine box_event qr (N := 6) qr (cs := #[.slice none 0 0, .slice none 0 0]) (t := 51) qg ?_; intro gb102 hg w99 hbox hb; have n0_ := zA (Kd.V_below (Kd.V_elderB (by (with_reducible repeat (first | apply Kd.V_alloc | apply Kd.V_drewN | apply Kd.V_drew)); exact HO0_1.out) gb102 (Nat.le_of_eq hg.symm)) hb); have n1_ := zA (qX BK101.out hb); have n2_ := zA (zV qB hb); have n3_ := zA (hbox); have n4_ := zA ((qS : w.heap.size ≤ gb102)); have n5_ := zA ((qS : w.heap.size ≤ gb102)); have n6_ := zA ((by rw [hg]; exact zLq (qL BK101.out) : gb101 ≠ gb102)); have n7_ := zA ((by rw [hg]; exact zMq (qL BK101.out) : gb102 ≠ gb101)); clear HO0_1 BK101 HB; have HO0_1 := n0_; have BK101 := n1_; have HB := n2_; have BK102 := n3_; have GW102 := n4_; have GE102 := n5_; have NB101_102 := n6_; have NB102_101 := n7_; clear n0_ n1_ n2_ n3_ n4_ n5_ n6_ n7_ hb hbox hg; have hnb100 := NB101_102.out; have hnc100 := NB102_101.out; obtain ⟨_, _, _, _⟩ := qc2f BK101.out) | ((with_reducible refine zJq (f := 85) rfl ?_); refine goesL_ (some 25) rfl rfl Try.func85 (by kernel_rfl) rfl #[.slice A0_0 l0_0.length c0_0, .string a1] rfl qG ?_; (with_reducible refine (serial_Find.calls k _ _ l0_0 a1 t103 false _ ?side1 ?side2 A14.out).mono ?_); (case side1 => exact qC (Kd.C_below HR0_0.out HB.out)); (case side2 => exact HC0_0.out); rintro e w102 ⟨rfl, hb⟩; refine ⟨_, rfl, ?_⟩; have n0_ := zA (Kd.V_below (by (with_reducible repeat (first | apply Kd.V_alloc | apply Kd.V_drewN | apply Kd.V_drew)); exact HO0_1.out) hb); have n1_ := zA (qX BK101.out hb); have n2_ := zA (qX BK102.out hb); have n3_ := zA (zV qB hb); clear HO0_1 BK101 BK102 HB; have HO0_1 := n0_; have BK101 := n1_; have BK102 := n2_; have HB := n3_; clear n0_ n1_ n2_ n3_; (try clear hb)) | ((with_reducible refine zJq (f := 87) rfl ?_); refine goesL_ (some 37) rfl rfl Try.func87 (by kernel_rfl) rfl #[.slice none 0 0, .int .i64 a2] rfl qG ?_; (refine (rows_Find.calls k _ _ ([] : List Int) a2 t119 false _ ?side1 ?side2 A63.out).mono ?_); (case side1 => exact Kd.C_nil _ _); (case side2 => exact Nat.le_refl _); rintro e w' ⟨rfl, ⟨nd, rfl⟩⟩; refine ⟨_, rfl, ?_⟩; (try (rw [drewN_self w102]; generalize hq_ : World.drewN w102 _ = w102; have n0_ : Aside0 (Kd.V (Kd.slice 3 (Kd.int .i64)) 44 w102 w.heap.size (fun k_ => (P0_1_ k_ ∨ w.heap.size ≤ k_) ∧ k_ ≠ gb101 ∧ k_ ≠ gb102) (.slice A0_1 l0_1.length c0_1) l0_1) := ⟨by rw [← hq_]; exact (by (with_reducible repeat (first | apply Kd.V_alloc | apply Kd.V_drewN | apply Kd.V_drew)); exact Kd.V_mono HO0_1.out (fun _ hk => ⟨hk.1.1, ⟨hk.1.2, hk.2⟩⟩))⟩; have n1_ : Aside0 (w102.heap[gb101]? = some (.cells #[.slice A0_0 l0_0.length c0_0, .slice A0_1 l0_1.length c0_1] 51 (0, 0))) := ⟨by rw [← hq_]; exact (qW BK101.out)⟩; have n2_ : Aside0 (w102.heap[gb102]? = some (.cells #[.slice none 0 0, .slice none 0 0] 51 (0, 0))) := ⟨by rw [← hq_]; exact (qW BK102.out)⟩; have n3_ : Aside0 (Below w.heap.size w w102) := ⟨by rw [← hq_]; exact qB⟩; clear HO0_1 BK101 BK102 HB hq_; have HO0_1 := n0_; have BK101 := n1_; have BK102 := n2_; have HB := n3_; clear n0_ n1_ n2_ n3_)); obtain ⟨_, _, _, _⟩ := qc2f BK101.out) | ((with_reducible refine zJq (f := 81) rfl ?_); refine goesL_ (some 45) rfl rfl Try.func81 (by kernel_rfl) rfl #[.agg #[.slice A0_0 l0_0.length c0_0, .slice A0_1 l0_1.length c0_1]] rfl qG ?_; (with_reducible refine (index_pairs.calls k _ _ l0_0 _ _ l0_1 t121 _ ?side1 ?side2 ?side3 ?side4 A71.out).mono ?_); (case side1 => exact qC (Kd.C_below HR0_0.out HB.out)); (case side2 => exact HC0_0.out); (case side3 => repeat (first | exact (Kd.V_reads' HO0_1.out).2.2 | (with_reducible refine Kd.C_alloc ?_ _) | (with_reducible refine Kd.C_drewN ?_ _) | (with_reducible refine Kd.C_drew ?_))); (case side4 => exact (Kd.V_reads' HO0_1.out).2.1); rintro e w104 ⟨rfl, hb⟩; refine ⟨_, rfl, ?_⟩; have n0_ := zA (Kd.V_below (by (with_reducible repeat (first | apply Kd.V_alloc | apply Kd.V_drewN | apply Kd.V_drew)); exact HO0_1.out) hb); have n1_ := zA (qX BK101.out hb); have n2_ := zA (qX BK102.out hb); have n3_ := zA (zV qB hb); clear HO0_1 BK101 BK102 HB; have HO0_1 := n0_; have BK101 := n1_; have BK102 := n2_; have HB := n3_; clear n0_ n1_ n2_ n3_; (try clear hb)) | ((with_reducible refine zJq (f := 135) rfl ?_); refine goesL_ (some 52) rfl rfl Try.func135 (by kernel_rfl) rfl #[.slice none 0 0, .int .i64 t119, .int .i64 a2] rfl qG ?_; (refine (rows_With_int.calls _ _ ([] : List Int) t119 a2 t122 t123 _ ?side1 ?side2 A81.out).mono ?_); (case side1 => exact Kd.C_nil _ _); (case side2 => exact Nat.le_refl _); rintro e w105 ⟨v124, rfl, ho0, hb⟩; refine ⟨_, rfl, ?_⟩; have n0_ := zA (Kd.V_elder' (by (with_reducible repeat (first | apply Kd.V_alloc | apply Kd.V_drewN | apply Kd.V_drew)); exact HO0_1.out) (Kd.R_base ho0) hb); have n1_ := zA (Kd.R_lower (Kd.R_newM (M := fun k_ => (w.heap.size ≤ k_)) ho0 (zW qB) (fun k_ h_ => h_)) (zW qB)); have n2_ := zA (qX BK101.out hb); have n3_ := zA (qX BK102.out hb); have n4_ := zA (zV qB hb); clear HO0_1 BK101 BK102 HB; have HO0_1 := n0_; have HO125 := n1_; have BK101 := n2_; have BK102 := n3_; have HB := n4_; clear n0_ n1_ n2_ n3_ n4_; (try clear hb); (try clear ho0); obtain ⟨_, _, _, _⟩ := qc2f BK102.out))
  refine bodyPost_ret (results_ct rfl _ _ gb102 51 #[.slice none 0 0, .slice none 0 0] (0, 0) _ rfl (qV BK102.out) Try.underlying51 rfl (by kernel_rfl)) rfl ?_
  exact ⟨_, _, qE, qN, by first | exact Kd.S_nil _ _ _ _ _ | exact Kd.N_nil _ _ _ _ _ | exact Kd.V_nil _ _ _ _ _ | exact Kd.Q_nil _ _ _ _ _ | exact Kd.R_nil _ _ _ _ _, qB⟩
end Go.Proofs.Ytdpcgigjlcpofaa.F
