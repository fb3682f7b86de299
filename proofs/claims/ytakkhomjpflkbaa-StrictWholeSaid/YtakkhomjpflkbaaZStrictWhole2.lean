-- merged and pruned by prune.py (the session's own program); its words go back to the kit's print
import Derived.Below
import Derived.Deep.Draws
import Derived.Deep.AppendLies
import Derived.Maps.AppendAt
import Derived.OwnWalk
import Derived.Laws.BytesArg
import Derived.Laws.MakeOwn
import Derived.Laws.OwnMore
import Derived.Deep.OwnRows
import Derived.Tactics
import Derived.Lib.ConvBytes
import Derived.Laws.Slices
import Derived.WalkKit
import Derived.KernelRfl
import Derived.RowKit3
import Derived.Deep.LoopGhost
import Derived.Deep.QuietTactic
import Derived.BigQuiet
import Derived.WideLaws
import Derived.Deep.DeepCutAuto
import Derived.Deep.CutBlock
import Derived.Deep.RegionHeld3
import Derived.Laws.Rows
import Derived.Lib.AppendStr
import Derived.ArgAppend
import Derived.Laws.IdiomCopy
import Derived.RowKit
import Derived.OrdersHeld
import Derived.Laws.BitsLemmas
import Derived.Deep.RegionLawGrows
import Derived.Lib.SliceRun
import Derived.Lib.OthersKept
import Derived.Lib.RuneCount
import Derived.Laws.Cover4
import Derived.Outline
import Derived.Shelf.Strings.Builder1
import Derived.Shelf.Strings.BuilderF
import Derived.Shelf.Strings.BuilderK
import Derived.Shelf.Utf8.RuneCount
import Derived.Shelf.Strings.Prefix
import Derived.Test.YtakkhomjpflkbaaProg
import Derived.Laws.StructEq
import Derived.Test.YtakkhomjpflkbaaZStrictWhole1
set_option linter.unusedVariables false
set_option linter.unusedSimpArgs false
namespace Go.Proofs.YtakkhomjpflkbaaX
open Go.RowKit
def clsI (r : Int) : Int := if (97 ≤ r ∧ r ≤ 122) ∨ (65 ≤ r ∧ r ≤ 90) then 1 else if 48 ≤ r ∧ r ≤ 57 then 2 else if r = 45 then 3 else 0
def upI (r : Int) : Int := if 97 ≤ r ∧ r ≤ 122 then r - 32 else r
def mayB (c last : Int) : Bool := c != 0 && (c != 3 || last != 3)
def okL : Int → List Int → Bool
  | _, [] => true
  | last, r :: rs => mayB (clsI r) last && okL (clsI r) rs
def runes (l : List UInt8) : List Int := l.map fun b => (b.toNat : Int)
def foldS (s : ByteArray) : ByteArray × Int :=
  if s.size < 1 ∨ s.size > 16 ∨ s.data.toList.getLast? = some 45 ∨ okL 3 (runes s.data.toList) = false then (⟨#[]⟩, 9)
  else (⟨((runes s.data.toList).map fun r => UInt8.ofNat (upI r).toNat).toArray⟩, 0)
def checkS (s : ByteArray) : Int := if (foldS s).2 = 0 ∧ (foldS s).1 = s then 0 else 9
theorem okL_bad {last r : Int} {rs : List Int} (h : mayB (clsI r) last = false) : okL last (r :: rs) = false := by simp [okL, h]
theorem okL_go {last r : Int} {rs : List Int} (h : mayB (clsI r) last = true) : okL last (r :: rs) = okL (clsI r) rs := by simp [okL, h]
theorem cls_high {r : Int} (h : 128 ≤ r) : clsI r = 0 := by unfold clsI; rw [if_neg (by omega), if_neg (by omega), if_neg (by omega)]
theorem mayB_zero {last : Int} : mayB 0 last = false := by simp [mayB]
theorem decode_high' (s : ByteArray) (i : Nat) (h : ¬ (s.get! i).toNat < 128) : 128 ≤ (Utf8.decode s i).1 := by
  unfold Utf8.decode
  simp only [Nat.add_zero]
  rw [if_neg (by omega)]
  have he : Utf8.runeError = 65533 := rfl
  (repeat' split) <;> simp_all <;> omega
theorem size_list (s : ByteArray) : s.data.toList.length = s.size := by rw [Array.length_toList]; rfl
theorem runes_length (l : List UInt8) : (runes l).length = l.length := by simp [runes]
theorem runes_drop (s : ByteArray) (i : Nat) (h : i < s.size) : (runes s.data.toList).drop i = ((s[i]'h).toNat : Int) :: (runes s.data.toList).drop (i + 1) := by
  rw [List.drop_eq_getElem_cons (by rw [runes_length, size_list]; exact h)]
  congr 1
  simp [runes]; rfl
theorem runes_take (s : ByteArray) (i : Nat) (h : i < s.size) : (runes s.data.toList).take (i + 1) = (runes s.data.toList).take i ++ [((s[i]'h).toNat : Int)] := by
  rw [List.take_succ_eq_append_getElem (by rw [runes_length, size_list]; exact h)]
  congr 1
  simp [runes]; rfl
theorem encode_ascii {n : Int} (h0 : 0 ≤ n) (h : n < 128) : Utf8.encode n = ⟨#[UInt8.ofNat n.toNat]⟩ := by
  unfold Utf8.encode
  have hv : Utf8.valid n = true := by simp [Utf8.valid]; omega
  simp only [hv, if_true]
  rw [if_pos (by omega)]
theorem foldl_ascii (ns : List Int) (h : ∀ n ∈ ns, 0 ≤ n ∧ n < 128) : ∀ s : ByteArray, ns.foldl (fun r n => r ++ Utf8.encode n) s = s ++ ⟨(ns.map fun n => UInt8.ofNat n.toNat).toArray⟩ := by
  induction ns with
  | nil => intro s; simp only [List.foldl_nil, List.map_nil]; exact (ByteArray.append_empty).symm
  | cons n ns ih =>
    intro s
    obtain ⟨h0, h1⟩ := h n List.mem_cons_self
    simp only [List.foldl_cons]
    rw [ih (fun m hm => h m (List.mem_cons_of_mem _ hm)), encode_ascii h0 h1]
    ext1
    simp [ByteArray.data_append]
theorem runes_ascii (ns : List Int) (h : ∀ n ∈ ns, 0 ≤ n ∧ n < 128) : runesBytes ns = ⟨(ns.map fun n => UInt8.ofNat n.toNat).toArray⟩ := by
  unfold runesBytes
  rw [foldl_ascii ns h]
  ext1
  simp [ByteArray.data_append]
end Go.Proofs.YtakkhomjpflkbaaX
set_option linter.unusedVariables false
namespace Go.Proofs
open Go.Shelf
def Try.lays169_ren : Go.Shelf.Ren := ⟨fun | 169 => 158 | n => n, fun | 70 => 230 | 9 => 9 | 0 => 0 | 72 => 232 | 37 => 180 | 127 => 312 | 3 => 3 | 5 => 5 | n => n, fun | n => n⟩
theorem Try.lays169 : Go.Proofs.Lays.n169 Try.prog Try.lays169_ren := {
  mixed := by kernel_rfl
  f169 := Try.func158.trans (congrArg some (by kernel_rfl))
  t0 := Try.underlying0
  a0 := Try.isAgg0
  z0 := Try.sizeOf0
  v0 := Try.zeroValue0
  t3 := Try.underlying3
  a3 := Try.isAgg3
  z3 := Try.sizeOf3
  v3 := Try.zeroValue3
  t9 := Try.underlying9
  a9 := Try.isAgg9
  z9 := Try.sizeOf9
  v9 := Try.zeroValue9
  t37 := Try.underlying180
  a37 := Try.isAgg180
  z37 := Try.sizeOf180
  v37 := Try.zeroValue180
  t70 := Try.underlying230
  a70 := Try.isAgg230
  z70 := Try.sizeOf230
  v70 := Try.zeroValue230
  t72 := Try.underlying232
  a72 := Try.isAgg232
  z72 := Try.sizeOf232
  v72 := Try.zeroValue232
  t127 := Try.underlying312
  a127 := Try.isAgg312
  z127 := Try.sizeOf312
  v127 := Try.zeroValue312 }
theorem Try.Builder_Extra_169 : Builder.Extra Try.prog Try.lays169_ren := {
  sizeBuilder := by kernel_rfl
  liesBuilder := by kernel_rfl
  t5 := Try.underlying5
  a5 := Try.isAgg5
  z5 := Try.sizeOf5
  v5 := Try.zeroValue5
  infoByte := by kernel_rfl
  cellsByte := by kernel_rfl
  sizeByte := by kernel_rfl
  neB5 := by decide }
open Go.RowKit in
theorem Try.Builder_String_any_k (B b : Nat) (l : List UInt8) (w : World) (h : Lib.IsBuilderF 232 5 B b (Lib.byteCells l) w) (hBw : B ≤ w.heap.size) :
    Calls Try.prog 158 #[.pointer (some ⟨b, 0, none⟩)] w fun e w' => e = .returned (.string ⟨l.toArray⟩) ∧ (Lib.IsBuilderF 232 5 B b (Lib.byteCells l) w' ∧ Below B w w' ∧ Lib.OthersKept 5 (some b) w w') := Any.Builder_String_any_k Try.lays169 Try.Builder_Extra_169 B b l w h hBw
def Try.lays100_ren : Go.Shelf.Ren := ⟨fun | 100 => 256 | 207 => 281 | n => n, fun | 9 => 9 | 4 => 4 | 3 => 3 | n => n, fun | n => n⟩
theorem Try.lays100 : Go.Proofs.Lays.n100 Try.prog Try.lays100_ren := {
  mixed := by kernel_rfl
  f100 := Try.func256.trans (congrArg some (by kernel_rfl))
  f207 := Try.func281.trans (congrArg some (by kernel_rfl))
  t3 := Try.underlying3
  a3 := Try.isAgg3
  z3 := Try.sizeOf3
  v3 := Try.zeroValue3
  t4 := Try.underlying4
  a4 := Try.isAgg4
  z4 := Try.sizeOf4
  v4 := Try.zeroValue4
  t9 := Try.underlying9
  a9 := Try.isAgg9
  z9 := Try.sizeOf9
  v9 := Try.zeroValue9 }
open Go.RowKit Go.Lib in
theorem Try.strings_HasSuffix (s p : ByteArray) (w : World) (hs : s.size ≤ 9223372036854775807) :
    Calls Try.prog 256 #[.string s, .string p] w fun e w' => e = .returned (.bool (Lib.hasSuffix s.data.toList p.data.toList)) ∧ w' = w := Any.strings_HasSuffix Try.lays100 s p w hs
def Try.lays195_ren : Go.Shelf.Ren := ⟨fun | 195 => 255 | n => n, fun | 9 => 9 | 3 => 3 | 0 => 0 | 4 => 4 | n => n, fun | n => n⟩
theorem Try.lays195 : Go.Proofs.Lays.n195 Try.prog Try.lays195_ren := {
  mixed := by kernel_rfl
  f195 := Try.func255.trans (congrArg some (by kernel_rfl))
  t0 := Try.underlying0
  a0 := Try.isAgg0
  z0 := Try.sizeOf0
  v0 := Try.zeroValue0
  t3 := Try.underlying3
  a3 := Try.isAgg3
  z3 := Try.sizeOf3
  v3 := Try.zeroValue3
  t4 := Try.underlying4
  a4 := Try.isAgg4
  z4 := Try.sizeOf4
  v4 := Try.zeroValue4
  t9 := Try.underlying9
  a9 := Try.isAgg9
  z9 := Try.sizeOf9
  v9 := Try.zeroValue9 }
open Go.RowKit in
theorem Try.utf8_RuneCountInString (s : ByteArray) (w : World) (hs : s.size < 9223372036854775807) :
    Calls Try.prog 255 #[.string s] w fun e w' => e = .returned (.int .i64 (Lib.runeCount s)) ∧ ∃ pos, w' = w.iter s pos := Any.utf8_RuneCountInString Try.lays195 s w hs
end Go.Proofs
namespace Go.Proofs.Ytakkhomjpflkbaa.F
open Go.RowKit Go.Proofs.YtakkhomjpflkbaaX Go.Proofs.YtakkhomjpflkbaaW.PrintWords Go.Proofs.YtakkhomjpflkbaaW.PrintLast Go.Proofs.YtakkhomjpflkbaaW.PrintMore
attribute [local go_sem] max2_int min2_int max_two min_two max_three min_three max_four min_four   
attribute [local go_sem high] str_geq str_leq str_gtr
set_option linter.unusedVariables false
set_option linter.unusedSimpArgs false
set_option maxHeartbeats 1000000 in
theorem stands1 (k : Nat) (r c last : Int) (b : Nat) (w : World) (hc : serial_Class.f k r = some c) (hb : w.heap[b]? = some (.cells #[.int .i64 last] 3 (0, 0))) :
    Calls Try.prog 282 #[.int .i32 r, .pointer (some ⟨b, 0, none⟩)] w fun e w' => e = .returned (.bool (mayB c last)) ∧ ∃ n, w' = (w.drewN n).setCell ⟨b, 0, none⟩ (.int .i64 c) := by
  have HC := Aside0.mk hc
  have h0 : w.cell? ⟨b, 0, none⟩ = some (.int .i64 last) := by simp [World.cell?, hb]
  have hf : w.frozen? ⟨b, 0, none⟩ = false := by simp [World.frozen?, hb]
  clear hc hb
  by_cases c0 : c = 0
  · subst c0
    go_enter Try.func282, Try.ntmps282
    go_wp2_with (go_at_call 283; refine (serial_Class.calls k _ _ _ HC.out).mono ?_; rintro e w' ⟨rfl, ⟨nd, rfl⟩⟩)
    go_ret
    exact ⟨by simp [mayB], nd, by simp⟩
  · have e0 : (c != 0) = true := bne_iff_ne.2 c0
    by_cases c3 : c = 3
    · subst c3
      clear c0 e0
      by_cases l3 : last = 3
      · subst l3
        go_enter Try.func282, Try.ntmps282
        go_wp2_with (go_at_call 283; refine (serial_Class.calls k _ _ _ HC.out).mono ?_; rintro e w' ⟨rfl, ⟨nd, rfl⟩⟩)
        go_ret
        exact ⟨by simp [mayB], nd, by simp⟩
      · have e1 : (last != 3) = true := bne_iff_ne.2 l3
        clear l3
        go_enter Try.func282, Try.ntmps282
        go_wp2_with (go_at_call 283; refine (serial_Class.calls k _ _ _ HC.out).mono ?_; rintro e w' ⟨rfl, ⟨nd, rfl⟩⟩)
        go_ret
        exact ⟨by simp [mayB, e1], nd, by simp⟩
    · have e1 : (c != 3) = true := bne_iff_ne.2 c3
      clear c0 c3
      go_enter Try.func282, Try.ntmps282
      go_wp2_with (go_at_call 283; refine (serial_Class.calls k _ _ _ HC.out).mono ?_; rintro e w' ⟨rfl, ⟨nd, rfl⟩⟩)
      go_ret
      exact ⟨by simp [mayB, e0, e1], nd, by simp⟩
theorem runeCount_pos (s : ByteArray) (h : 0 < s.size) : 1 ≤ Lib.runeCount s := by
  unfold Lib.runeCount
  obtain ⟨n, hn⟩ : ∃ n, s.size = n + 1 := ⟨s.size - 1, by omega⟩
  rw [hn]
  unfold Lib.runeCountFrom
  rw [if_pos h]; omega
theorem runeCount_step {s : ByteArray} {i : Nat} (h : Lib.runeCountFrom s (s.size - i) i + i = Lib.runeCount s) (hp : i < s.size) (ha : (s[i]'hp).toNat < 128) : Lib.runeCountFrom s (s.size - (i + 1)) (i + 1) + (i + 1) = Lib.runeCount s := by
  rw [show s.size - i = (s.size - (i + 1)) + 1 by omega] at h
  have h2 : Lib.runeCountFrom s (s.size - (i + 1) + 1) i = 1 + Lib.runeCountFrom s (s.size - (i + 1)) (i + 1) := by
    rw [Lib.runeCountFrom, if_pos hp, decode_ascii s i hp ha]
  rw [h2] at h
  omega
theorem suffix_last {l : List UInt8} : Lib.hasSuffix l [45] = true ↔ l.getLast? = some 45 := by
  unfold Lib.hasSuffix
  rw [List.isSuffixOf_iff_suffix]
  constructor
  · rintro ⟨t, rfl⟩; simp
  · intro h
    rw [List.getLast?_eq_some_iff] at h
    obtain ⟨t, rfl⟩ := h
    exact ⟨t, rfl⟩
theorem runeCount_ascii (s : ByteArray) (h : ∀ i (hi : i < s.size), (s[i]'hi).toNat < 128) : ∀ (d b pos : Nat), s.size - pos = d → pos ≤ s.size → d ≤ b → Lib.runeCountFrom s b pos = d := by
  intro d
  induction d with
  | zero =>
    intro b pos hd hp hb
    exact Lib.runeCountFrom_end s b pos (by omega)
  | succ d ih =>
    intro b pos hd hp hb
    obtain ⟨b, rfl⟩ : ∃ c, b = c + 1 := ⟨b - 1, by omega⟩
    have hlt : pos < s.size := by omega
    unfold Lib.runeCountFrom
    rw [if_pos hlt, decode_ascii s pos hlt (h pos hlt)]
    show 1 + Lib.runeCountFrom s b (pos + 1) = d + 1
    rw [ih b (pos + 1) (by omega) (by omega) (by omega)]
    omega
theorem okL_all (l : List Int) : ∀ last, okL last l = true → ∀ r ∈ l, r < 128 := by
  induction l with
  | nil => intro _ _ r h; cases h
  | cons a l ih =>
    intro last h r hr
    simp only [okL, Bool.and_eq_true] at h
    rcases List.mem_cons.1 hr with rfl | hr
    · apply Classical.byContradiction
      intro hn
      rw [cls_high (by omega), mayB_zero] at h
      exact absurd h.1 (by decide)
    · exact ih _ h.2 r hr
theorem okL_size {s : ByteArray} (h : okL 3 (runes s.data.toList) = true) : Lib.runeCount s = s.size := by
  unfold Lib.runeCount
  refine runeCount_ascii s (fun i hi => ?_) s.size s.size 0 (by omega) (by omega) (Nat.le_refl _)
  have := okL_all _ _ h (((s[i]'hi).toNat : Nat) : Int) (List.mem_map.2 ⟨s[i]'hi, ?_, rfl⟩)
  · omega
  · rw [List.mem_iff_getElem]
    exact ⟨i, by rw [size_list]; exact hi, rfl⟩
theorem own_keep {k : IntKind} {e base : Nat} {ok : Nat → Prop} {w w1 : World} {v : Value} {xs : List Int} (h : Kd.R (Kd.int k) e w base ok v xs) (hk : ∀ g, v.ownBlock = some g → w1.heap[g]? = w.heap[g]?) : Kd.R (Kd.int k) e w1 base ok v xs := by
  obtain ⟨h0, inner, ho, hr⟩ := h
  refine ⟨h0, inner, ⟨ho.1, ?_⟩, hr⟩
  rcases ho.2 with hn | ⟨g, cap, cur, hv, hb, hg, rest⟩
  · exact .inl hn
  · exact .inr ⟨g, cap, cur, hv, hb, (hk g (by rw [hv]; rfl)).trans hg, rest⟩
theorem infoRune : (Try.prog.info? 21).map (fun i => (i.zero, i.size, i.bytes)) = some (some (.int .i32 0), 1, 4) := by kernel_rfl
theorem class_f (r : Int) : serial_Class.f 20 r = some (clsI r) := by
  unfold serial_Class.f clsI
  simp only [serial_Class.j0, serial_Class.j1]
  (repeat' split) <;> simp_all <;> omega
theorem folded_f {r : Int} (h0 : 0 ≤ r) (h : r < 128) : serial_folded.f r = some (upI r) := by
  unfold serial_folded.f upI wrap32
  (repeat' split) <;> simp_all <;> omega
theorem stands_made (w : World) : Calls Try.prog 257 #[] w fun e w' => e = .returned (.func (.func 282) #[] #[.pointer (some ⟨w.heap.size, 0, none⟩)]) ∧ w' = w.alloc (.cells #[.int .i64 3] 3) := by
  have hmf : ∀ (fn : Fn) (first cap : Array Value) (w : World), (Instr.makeFunc fn first cap).run Try.prog w = .ok (.func fn first cap) w := fun _ _ _ _ => rfl
  go_enter Try.func257, Try.ntmps257
  go_wp2
  go_ret
  exact ⟨rfl, rfl⟩
def serial_Fold.f (s : ByteArray) : Option (ByteArray × Int) := if s.size < 9223372036854775807 then some (foldS s) else none
set_option maxHeartbeats 4000000 in
set_option maxRecDepth 100000 in
theorem serial_Fold.calls (s : ByteArray) (r1 : ByteArray) (r2 : Int) (w : World) (h : serial_Fold.f s = some (r1, r2)) :
    Calls Try.prog 215 #[.string s] w fun e w' => e = .returned (.tuple #[.string r1, .int .i64 r2]) ∧ Below w.heap.size w w' := by
  unfold serial_Fold.f at h
  by_cases hs : s.size < 9223372036854775807
  · rw [if_pos hs] at h
    have H := Aside0.mk (Option.some.inj h)
    have HS := Aside0.mk hs
    clear h
    have hrc := Lib.runeCount_le s
    by_cases hbad : Lib.runeCount s < 1 ∨ 16 < Lib.runeCount s
    · have hr : foldS s = (⟨#[]⟩, 9) := by
        unfold foldS
        by_cases hok : okL 3 (runes s.data.toList) = false
        · rw [if_pos (.inr (.inr (.inr hok)))]
        · rcases hbad with hb | hb
          · by_cases h0 : s.size < 1
            · rw [if_pos (.inl h0)]
            · exact absurd (runeCount_pos s (by omega)) (by omega)
          · rw [if_pos (.inr (.inl (by omega)))]
      have hH := H.out
      rw [hr] at hH
      simp only [Prod.mk.injEq] at hH
      obtain ⟨rfl, rfl⟩ := hH
      rcases hbad with hb | hb
      · have t1 : decide ((Lib.runeCount s : Int) < 1) = true := decide_eq_true (by omega)
        clear hb hs
        go_enter Try.func215, Try.ntmps215
        go_wp2_with (first
          | (go_at_call 255; refine (Try.utf8_RuneCountInString _ _ (by have := HS.out; omega)).mono ?_; rintro e w1 ⟨rfl, ⟨pos, rfl⟩⟩))
        go_ret2
        exact ⟨rfl, below_alloc (Below.refl _ _) _⟩
      · have t1 : decide ((Lib.runeCount s : Int) < 1) = false := decide_eq_false (by omega)
        have t2 : decide (16 < (Lib.runeCount s : Int)) = true := decide_eq_true (by omega)
        clear hb hs
        go_enter Try.func215, Try.ntmps215
        go_wp2_with (first
          | (go_at_call 255; refine (Try.utf8_RuneCountInString _ _ (by have := HS.out; omega)).mono ?_; rintro e w1 ⟨rfl, ⟨pos, rfl⟩⟩))
        go_ret2
        exact ⟨rfl, below_alloc (Below.refl _ _) _⟩
    · have t1 : decide ((Lib.runeCount s : Int) < 1) = false := decide_eq_false (by omega)
      have t2 : decide (16 < (Lib.runeCount s : Int)) = false := decide_eq_false (by omega)
      by_cases hsuf : Lib.hasSuffix s.data.toList [45] = true
      · have hr : foldS s = (⟨#[]⟩, 9) := by
          unfold foldS
          rw [if_pos (.inr (.inr (.inl (suffix_last.1 hsuf))))]
        have hH := H.out
        rw [hr] at hH
        simp only [Prod.mk.injEq] at hH
        obtain ⟨rfl, rfl⟩ := hH
        have HSf := Aside0.mk hsuf
        clear hs hbad hsuf hr hrc
        go_enter Try.func215, Try.ntmps215
        go_wp2_with (first
          | (go_at_call 255; refine (Try.utf8_RuneCountInString _ _ (by have := HS.out; omega)).mono ?_; rintro e w1 ⟨rfl, ⟨pos, rfl⟩⟩)
          | (go_at_call 256; refine (Try.strings_HasSuffix _ _ _ (by have := HS.out; omega)).mono ?_; rintro e w2 ⟨rfl, rfl⟩; rw [show Lib.hasSuffix s.data.toList (ByteArray.mk #[45]).data.toList = true from HSf.out]))
        go_ret2
        exact ⟨rfl, below_alloc (Below.refl _ _) _⟩
      · have HSf := Aside0.mk (Bool.eq_false_iff.2 hsuf)
        have HN := Aside0.mk (show 1 ≤ Lib.runeCount s ∧ Lib.runeCount s ≤ 16 by omega)
        have hmk : ∀ W, (Instr.makeSlice 339 (.int .i64 0) (.int .i64 (Lib.runeCount s : Int))).run Try.prog W = .ok (.slice (some ⟨W.heap.size, 0, none⟩) 0 (Lib.runeCount s)) (W.alloc (.cells (madeCells (Value.int .i32 0).cells (Lib.runeCount s)) 21)) := by
          intro W
          obtain ⟨i0, hi, hzz⟩ := Option.map_eq_some_iff.1 infoRune
          simp only [Prod.mk.injEq] at hzz
          have := run_makeSlice (P := Try.prog) W 339 21 i0 (.int .i32 0) Try.underlying339 hi hzz.1 .i64 .i64 0 (Lib.runeCount s) (by omega) (by omega) (by rw [hzz.2.1]; simp; omega) (by rw [hzz.2.2]; omega) (by omega)
          rw [hzz.2.1] at this
          simpa using this
        clear hs hbad hsuf hrc
        go_enter Try.func215, Try.ntmps215
        go_wp2_with (first
          | (go_at_call 255; refine (Try.utf8_RuneCountInString _ _ (by have := HS.out; omega)).mono ?_; rintro e w1 ⟨rfl, ⟨pos, rfl⟩⟩)
          | (go_at_call 256; refine (Try.strings_HasSuffix _ _ _ (by have := HS.out; omega)).mono ?_; rintro e w2 ⟨rfl, rfl⟩; rw [show Lib.hasSuffix s.data.toList (ByteArray.mk #[45]).data.toList = false from HSf.out])
          | (go_at_call 257; refine (stands_made _).mono ?_; rintro e w2 ⟨rfl, rfl⟩))
        obtain ⟨W0, hW0⟩ : ∃ W0, W0 = w.iter s pos := ⟨_, rfl⟩
        rw [← hW0]
        have HB0 := Aside0.mk (show Below w.heap.size w W0 by rw [hW0]; exact below_alloc (Below.refl _ _) _)
        clear hW0
        clear hmk t1 t2
        go_loopw [6] (fun v6 wr => ∃ (i : Nat) (last : Int), i ≤ s.size ∧ Aside0 (Kd.R (Kd.int .i32) 21 wr W0.heap.size (fun k => k ≠ W0.heap.size ∧ k ≠ W0.heap.size + 1 + 1) v6 (((runes s.data.toList).take i).map upI)) ∧ Aside0 (wr.heap[W0.heap.size + 1 + 1]? = some (.stringIter s i)) ∧ Aside0 (wr.heap[W0.heap.size]? = some (.cells #[.int .i64 last] 3 (0, 0))) ∧ Aside0 (okL 3 (runes s.data.toList) = okL last ((runes s.data.toList).drop i)) ∧ Aside0 (Below W0.heap.size W0 wr) ∧ Aside0 (Lib.runeCountFrom s (s.size - i) i + i = Lib.runeCount s)) (fun _ wr => s.size - wr.iterPos (W0.heap.size + 1 + 1))
        case atStart =>
          refine ⟨0, 3, by omega, ⟨?_⟩, ⟨?_⟩, ⟨?_⟩, ⟨rfl⟩, ⟨?_⟩, ⟨rfl⟩⟩
          · refine own_keep (w := (W0.alloc (.cells #[.int .i64 3] 3)).alloc (.cells (madeCells (Value.int .i32 0).cells (Lib.runeCount s)) 21)) ⟨fun k hk => ?_, [], ?_, Reps.none _ _⟩ (fun g hg => ?_)
            · simp only [Value.ownBlock, Option.some.injEq] at hk
              omega
            · have := World.ownsRow_made (e := 21) (size := (Kd.int .i32).sz) (base := W0.heap.size) (W0.alloc (.cells #[.int .i64 3] 3)) (madeCells (Value.int .i32 0).cells (Lib.runeCount s)) (Lib.runeCount s) (by simp) (by unfold maxLen; have := HN.out; omega) (by rw [size_madeCells]; exact (Nat.mul_one _).symm)
              simpa using this
            · simp only [Value.ownBlock, Option.some.injEq] at hg
              subst hg
              exact Below.heap_alloc _ _ _ (by simp)
          · have := World.iter_heap ((W0.alloc (.cells #[.int .i64 3] 3)).alloc (.cells (madeCells (Value.int .i32 0).cells (Lib.runeCount s)) 21)) s 0
            have e : ((W0.alloc (.cells #[.int .i64 3] 3)).alloc (.cells (madeCells (Value.int .i32 0).cells (Lib.runeCount s)) 21)).heap.size = W0.heap.size + 1 + 1 := by simp
            rw [e] at this
            exact this
          · exact blk_alloc (blk_alloc (blk_new _ _) _) _
          · exact below_alloc (below_alloc (below_alloc (Below.refl _ _) _) _) _
        case round =>
          obtain ⟨i, last, hi, HO, HI, HL, HK, HB, HRC⟩ := hrel
          have hlt2 : W0.heap.size + 1 + 1 < wr.heap.size := blk_lt HI.out
          by_cases hp : i < s.size
          · have hd := runes_drop s i hp
            by_cases ha : (s[i]'hp).toNat < 128
            · obtain ⟨Wn, hWn⟩ : ∃ Wn, Wn = wr.iterAt (W0.heap.size + 1 + 1) s (i + 1) := ⟨_, rfl⟩
              have hnx : ∀ ty, (Instr.next (.pointer (some ⟨W0.heap.size + 1 + 1, 0, none⟩)) true ty).run Try.prog wr = .ok (.tuple #[.bool true, .int .i64 i, .int .i32 (s[i]'hp).toNat]) Wn := fun ty => by rw [hWn]; exact Lib.run_next_ascii_at wr _ s i ty HI.out hp ha
              have HI1 := Aside0.mk (show Wn.heap[W0.heap.size + 1 + 1]? = some (.stringIter s (i + 1)) by rw [hWn]; exact Lib.iterAt_heap wr _ s i (i + 1) HI.out)
              have HL1 := Aside0.mk (show Wn.heap[W0.heap.size]? = some (.cells #[.int .i64 last] 3 (0, 0)) by rw [hWn, Lib.iterAt_other _ _ _ _ _ (by omega)]; exact HL.out)
              have HB1 := Aside0.mk (show Below W0.heap.size W0 Wn by rw [hWn]; exact Lib.below_iterAt HB.out (by omega) s (i + 1))
              have HO1 := Aside0.mk (show Kd.R (Kd.int .i32) 21 Wn W0.heap.size (fun k => k ≠ W0.heap.size ∧ k ≠ W0.heap.size + 1 + 1) u6 (((runes s.data.toList).take i).map upI) by rw [hWn]; exact own_keep HO.out (fun g hg => Lib.iterAt_other _ _ _ _ _ (HO.out.1 g hg).2))
              clear hWn
              obtain ⟨r, hr⟩ : ∃ r : Int, r = ((s[i]'hp).toNat : Int) := ⟨_, rfl⟩
              rw [← hr] at hd hnx
              have hr0 : 0 ≤ r ∧ r < 128 := by omega
              have HK2 := Aside0.mk (HK.out.trans (congrArg (okL last) hd))
              have HR := Aside0.mk hr0
              have HT := Aside0.mk (show (runes s.data.toList).take (i + 1) = (runes s.data.toList).take i ++ [r] by rw [hr]; exact runes_take s i hp)
              have HP := Aside0.mk hp
              clear hd hr hr0
              cases hm : mayB (clsI r) last with
              | false =>
                have hH := H.out
                have hf : foldS s = (⟨#[]⟩, 9) := by
                  unfold foldS
                  rw [if_pos (.inr (.inr (.inr (HK2.out.trans (okL_bad hm)))))]
                rw [hf] at hH
                simp only [Prod.mk.injEq] at hH
                obtain ⟨rfl, rfl⟩ := hH
                have HM := Aside0.mk hm
                clear hm hf
                go_wp2_with (first
                  | (go_at_call 282; refine (stands1 20 r (clsI r) last W0.heap.size _ (class_f _) HL1.out).mono ?_; rintro e w2 ⟨rfl, ⟨nd, rfl⟩⟩; rw [HM.out]))
                go_ret2
                exact ⟨rfl, below_then HB0.out HB0.out.size (Below.setCell (pw_below_drewN HB1.out _) (Nat.le_refl _) _)⟩
              | true =>
                have HM := Aside0.mk hm
                clear hm
                have HL3 : Aside0 ((((runes s.data.toList).take i).map upI).length ≤ i) := ⟨by simp; omega⟩
                have HSM := Aside0.mk (show i < 1099511627776 by have := HRC.out; have := HN.out; omega)
                have HRC2 := Aside0.mk (show Lib.runeCountFrom s (s.size - (i + 1)) (i + 1) + (i + 1) = Lib.runeCount s from runeCount_step HRC.out hp ha)
                go_wp2_with (first
                  | (go_at_call 282; refine (stands1 20 r (clsI r) last W0.heap.size _ (class_f _) HL1.out).mono ?_; rintro e w2 ⟨rfl, ⟨nd, hw2⟩⟩; rw [HM.out]; have HI2 := Aside0.mk (show w2.heap[W0.heap.size + 1 + 1]? = some (.stringIter s (i + 1)) by rw [hw2, Below.heap_setCell _ _ _ _ (show W0.heap.size + 1 + 1 ≠ W0.heap.size by omega)]; exact HI1.out); have HL2 := Aside0.mk (show w2.heap[W0.heap.size]? = some (.cells #[.int .i64 (clsI r)] 3 (0, 0)) by rw [hw2]; exact blk_put (blk_drewN HL1.out nd) 0 _ rfl); have HB2 := Aside0.mk (show Below W0.heap.size W0 w2 by rw [hw2]; exact Below.setCell (pw_below_drewN HB1.out _) (Nat.le_refl _) _); have HO2 := Aside0.mk (own_keep (w1 := w2) HO1.out (fun g hg => by rw [hw2, Below.heap_setCell _ _ _ _ (HO1.out.1 g hg).1]; rfl)); clear hw2)
                  | (go_at_call 258; refine (serial_folded.calls r (upI r) _ (folded_f HR.out.1 HR.out.2)).mono ?_; rintro e w3 ⟨rfl, ⟨nd2, rfl⟩⟩)
                  | (at_builtin; refine Kd.R_append (Kd.int .i32) (w0 := W0) W0.heap.size rfl (.tmp 33) (.tmp 36) 339 21 (.int .i32 0) 4 rfl Try.underlying339 infoRune rfl (by decide) (by omega) _ (((runes s.data.toList).take i).map upI) (upI r) [.int .i32 (upI r)] (fun k => k ≠ W0.heap.size ∧ k ≠ W0.heap.size + 1 + 1) (fun _ => False) rfl rfl ?aP (fun _ hk => hk.elim) ?aF ?aO ?aB ?aS ?aL ?_; (case aP => exact rfl); (case aB => exact pw_below_drewN HB2.out _); (case aF => exact (fun k hk => by have h1 := blk_lt HI2.out; have h2 : w2.heap.size ≤ k := hk; omega)); (case aO => exact own_keep HO2.out (fun _ _ => rfl)); (case aS => exact HB2.out.size); (case aL => have := HL3.out; have := HSM.out; omega); intro v1 w4 ho hb hg hat; have HO4 := Aside0.mk ho; have HB4 := Aside0.mk hb; have HI4 := Aside0.mk (blk_grown (blk_drewN HI2.out nd2) hg (fun e => (HO2.out.1 _ e.symm).2 rfl)); have HL4 := Aside0.mk (blk_grown (blk_drewN HL2.out nd2) hg (fun e => (HO2.out.1 _ e.symm).1 rfl)); clear ho hb hg hat))
                go_roundw
                case rel =>
                  refine ⟨i + 1, clsI r, by have := HP.out; omega, ⟨?_⟩, HI4, HL4, ⟨HK2.out.trans (okL_go HM.out)⟩, HB4, HRC2⟩
                  have := HO4.out
                  rw [HT.out, List.map_append]
                  exact this
                case measure =>
                  have h1 : ∀ (W : World) (p : Nat), W.heap[W0.heap.size + 1 + 1]? = some (.stringIter s p) → W.iterPos (W0.heap.size + 1 + 1) = p := fun W p h => by unfold World.iterPos; rw [h]
                  rw [h1 _ _ HI4.out, h1 _ _ HI.out]
                  have := HP.out
                  omega
            · obtain ⟨Wn, hWn⟩ : ∃ Wn, Wn = wr.iterAt (W0.heap.size + 1 + 1) s (i + (Utf8.decode s i).2) := ⟨_, rfl⟩
              have hnx : ∀ ty, (Instr.next (.pointer (some ⟨W0.heap.size + 1 + 1, 0, none⟩)) true ty).run Try.prog wr = .ok (.tuple #[.bool true, .int .i64 i, .int .i32 (Utf8.decode s i).1]) Wn := fun ty => by rw [hWn]; exact Lib.run_next_any_at wr _ s i ty HI.out hp
              have HL1 := Aside0.mk (show Wn.heap[W0.heap.size]? = some (.cells #[.int .i64 last] 3 (0, 0)) by rw [hWn, Lib.iterAt_other _ _ _ _ _ (by omega)]; exact HL.out)
              have HB1 := Aside0.mk (show Below W0.heap.size W0 Wn by rw [hWn]; exact Lib.below_iterAt HB.out (by omega) s _)
              clear hWn
              have hg : s.get! i = s[i]'hp := by simp [ByteArray.get!, hp]; rfl
              have hhi := decode_high' s i (by rw [hg]; exact ha)
              obtain ⟨r, hr⟩ : ∃ r : Int, r = ((Utf8.decode s i).1 : Int) := ⟨_, rfl⟩
              rw [← hr] at hnx
              have hc0 : clsI r = 0 := cls_high (by omega)
              have hH := H.out
              have hf : foldS s = (⟨#[]⟩, 9) := by
                unfold foldS
                exact if_pos (.inr (.inr (.inr (by rw [HK.out, hd]; exact okL_bad (by rw [cls_high (by omega)]; rfl)))))
              rw [hf] at hH
              simp only [Prod.mk.injEq] at hH
              obtain ⟨rfl, rfl⟩ := hH
              have HC0 := Aside0.mk (show serial_Class.f 20 r = some 0 by rw [class_f, hc0])
              clear hhi hr hf hd hg hc0
              go_wp2_with (first
                | (go_at_call 282; refine (stands1 20 r 0 last W0.heap.size _ HC0.out HL1.out).mono ?_; rintro e w2 ⟨rfl, ⟨nd, rfl⟩⟩; rw [show mayB 0 last = false from mayB_zero]))
              go_ret2
              exact ⟨rfl, below_then HB0.out HB0.out.size (Below.setCell (pw_below_drewN HB1.out _) (Nat.le_refl _) _)⟩
          · have hnx : ∀ ty, (Instr.next (.pointer (some ⟨W0.heap.size + 1 + 1, 0, none⟩)) true ty).run Try.prog wr = .ok (.tuple #[.bool false]) wr := fun ty => Lib.run_next_end_at wr _ s i ty HI.out hp
            have hi' : i = s.size := by omega
            subst hi'
            have hok : okL 3 (runes s.data.toList) = true := by
              rw [HK.out, List.drop_eq_nil_of_le (by rw [runes_length, size_list]; exact Nat.le_refl _)]; rfl
            have hsz := okL_size hok
            have hN := HN.out
            have hf : foldS s = (⟨((runes s.data.toList).map fun r => UInt8.ofNat (upI r).toNat).toArray⟩, 0) := by
              unfold foldS
              rw [if_neg]
              rintro (h | h | h | h)
              · omega
              · omega
              · rw [← suffix_last, HSf.out] at h; cases h
              · rw [hok] at h; cases h
            have hH := H.out
            rw [hf] at hH
            simp only [Prod.mk.injEq] at hH
            obtain ⟨hH1, rfl⟩ := hH
            have hrb : runesBytes ((runes s.data.toList).map upI) = r1 := by
              rw [← hH1, runes_ascii]
              · rw [List.map_map]; rfl
              · intro n hn
                obtain ⟨m, hm, rfl⟩ := List.mem_map.1 hn
                have h1 := okL_all _ _ hok m hm
                obtain ⟨b, _, rfl⟩ := List.mem_map.1 hm
                unfold upI
                split <;> omega
            have hcv : ∃ A l c, u6 = .slice A l c ∧ (convert 339 9 (.slice A l c)).run Try.prog wr = .ok (.string r1) wr := by
              have hO := HO.out
              rw [List.take_of_length_le (by rw [runes_length, size_list]; exact Nat.le_refl _)] at hO
              obtain ⟨A, c, rfl⟩ := Kd.R_slice hO
              refine ⟨A, _, c, rfl, ?_⟩
              obtain ⟨h1, h2, h3⟩ := Kd.R_reads' hO
              have hl : 0 < ((runes s.data.toList).map upI).length := by rw [List.length_map, runes_length, size_list]; omega
              obtain ⟨ad, e1, _⟩ := Kd.at_int h3 (0 : Int) (by omega) (by omega)
              subst e1
              have := run_convert_runes (P := Try.prog) wr 339 9 21 ad ((runes s.data.toList).map upI).length c ((runes s.data.toList).map upI) (Nat.le_refl _) Try.underlying339 Try.underlying21 Try.underlying9 (fun j hj => by
                obtain ⟨ad2, e2, hx⟩ := Kd.at_int h3 (j : Int) (by omega) (by omega)
                cases e2
                rw [Int.toNat_natCast] at hx
                rw [hx]; rfl)
              rw [List.take_length, hrb] at this
              exact this
            obtain ⟨A, l, c, rfl, hcv⟩ := hcv
            have HCV := Aside0.mk hcv
            clear hf hrb hH1 hok hsz hN hcv
            have hcv2 := HCV.out
            go_wp2
            go_ret2
            exact ⟨rfl, below_then HB0.out HB0.out.size HB.out⟩
  · rw [if_neg hs] at h; cases h
end Go.Proofs.Ytakkhomjpflkbaa.F
namespace Go.Proofs.Ytakkhomjpflkbaa.F
open Go.RowKit Go.Proofs.YtakkhomjpflkbaaX Go.Proofs.YtakkhomjpflkbaaW.PrintWords Go.Proofs.YtakkhomjpflkbaaW.PrintLast Go.Proofs.YtakkhomjpflkbaaW.PrintMore
attribute [local go_sem] max2_int min2_int max_two min_two max_three min_three max_four min_four   
attribute [local go_sem high] str_geq str_leq str_gtr
set_option linter.unusedVariables false
set_option linter.unusedSimpArgs false
def serial_Check.f (a0 : ByteArray) : Option (Int) := (serial_Fold.f a0).bind fun bt462 => (if bt462.2 = 0 then (if bt462.1.toList = a0.toList then (some 0) else (some 9)) else (some 9))
set_option maxHeartbeats 8000000 in
set_option maxRecDepth 100000 in
theorem serial_Check.calls (a0 : ByteArray) (r : Int) (w : World) (h : serial_Check.f a0 = some r) :
    Calls Try.prog 137 #[.string a0] w fun e w' => e = .returned (.int .i64 r) ∧ Below w.heap.size w w' := by
  have HB := Aside0.mk (Below.refl w.heap.size w)
  have H : ((serial_Fold.f a0).bind fun bt462 => (if bt462.2 = 0 then (if bt462.1.toList = a0.toList then (some 0) else (some 9)) else (some 9))) = some r := h
  clear h
  replace H := Option.bind_eq_some_iff.mp H
  obtain ⟨⟨t462, t463⟩, A20, H⟩ := H
  replace H : (if t463 = 0 then (if t462.toList = a0.toList then (some 0) else (some 9)) else (some 9)) = some r := H
  have A2 := Aside0.mk A20
  clear A20
  by_cases c3 : t463 = 0
  · rw [if_pos c3] at H
    have c3b0 : (t463 == 0) = true := beq_iff_eq.mpr c3
    have c3b1 : (t463 != 0) = false := bne_eq_false_iff_eq.mpr c3
    clear c3
    by_cases c4 : t462.toList = a0.toList
    · rw [if_pos c4] at H
      have c4b0 : (t462.toList == a0.toList) = true := beq_iff_eq.mpr c4
      have c4b1 : (t462.toList != a0.toList) = false := bne_eq_false_iff_eq.mpr c4
      clear c4
      obtain rfl := Option.some.inj H
      go_enter Try.func137, Try.ntmps137
      go_wp2_with (first | ((with_reducible refine gate_callee (f := 215) rfl ?_); refine goesL_ (some 7) rfl rfl Try.func215 (by kernel_rfl) rfl #[.string a0] rfl (by (try simp only [List.map_toArray, List.map_cons, List.map_nil]); first | done | rfl | (simp only [List.length_drop, List.length_take]; rfl)) ?_; (with_reducible refine (serial_Fold.calls a0 t462 t463 _ A2.out).mono ?_); rintro e w5 ⟨rfl, hb⟩; refine ⟨_, rfl, ?_⟩; have n0_ := Aside0.mk (below_step (by repeat (first | (with_reducible first | exact HB.out | apply below_alloc | apply pw_below_drewN | apply below_drew1) | exact HB.out)) hb); clear HB; have HB := n0_; clear n0_; (try clear hb); (try clear hb2); (try clear hk); (try clear hi)))
      go_ret
      exact ⟨by first | rfl | (simp [errW_none, errW_some] <;> rfl) | (simp [*, errW_none, errW_some] <;> rfl), by repeat (first | (with_reducible first | exact HB.out | apply below_alloc | apply pw_below_drewN | apply below_drew1) | exact HB.out)⟩
    · rw [if_neg c4] at H
      have c4b0 : (t462.toList == a0.toList) = false := beq_eq_false_iff_ne.mpr c4
      have c4b1 : (t462.toList != a0.toList) = true := bne_iff_ne.mpr c4
      obtain rfl := Option.some.inj H
      go_enter Try.func137, Try.ntmps137
      go_wp2_with (first | ((with_reducible refine gate_callee (f := 215) rfl ?_); refine goesL_ (some 7) rfl rfl Try.func215 (by kernel_rfl) rfl #[.string a0] rfl (by (try simp only [List.map_toArray, List.map_cons, List.map_nil]); first | done | rfl | (simp only [List.length_drop, List.length_take]; rfl)) ?_; (with_reducible refine (serial_Fold.calls a0 t462 t463 _ A2.out).mono ?_); rintro e w6 ⟨rfl, hb⟩; refine ⟨_, rfl, ?_⟩; have n0_ := Aside0.mk (below_step (by repeat (first | (with_reducible first | exact HB.out | apply below_alloc | apply pw_below_drewN | apply below_drew1) | exact HB.out)) hb); clear HB; have HB := n0_; clear n0_; (try clear hb); (try clear hb2); (try clear hk); (try clear hi)))
      go_ret
      exact ⟨by first | rfl | (simp [errW_none, errW_some] <;> rfl) | (simp [*, errW_none, errW_some] <;> rfl), by repeat (first | (with_reducible first | exact HB.out | apply below_alloc | apply pw_below_drewN | apply below_drew1) | exact HB.out)⟩
  · rw [if_neg c3] at H
    have c3b0 : (t463 == 0) = false := beq_eq_false_iff_ne.mpr c3
    have c3b1 : (t463 != 0) = true := bne_iff_ne.mpr c3
    obtain rfl := Option.some.inj H
    go_enter Try.func137, Try.ntmps137
    go_wp2_with (first | ((with_reducible refine gate_callee (f := 215) rfl ?_); refine goesL_ (some 7) rfl rfl Try.func215 (by kernel_rfl) rfl #[.string a0] rfl (by (try simp only [List.map_toArray, List.map_cons, List.map_nil]); first | done | rfl | (simp only [List.length_drop, List.length_take]; rfl)) ?_; (with_reducible refine (serial_Fold.calls a0 t462 t463 _ A2.out).mono ?_); rintro e w7 ⟨rfl, hb⟩; refine ⟨_, rfl, ?_⟩; have n0_ := Aside0.mk (below_step (by repeat (first | (with_reducible first | exact HB.out | apply below_alloc | apply pw_below_drewN | apply below_drew1) | exact HB.out)) hb); clear HB; have HB := n0_; clear n0_; (try clear hb); (try clear hb2); (try clear hk); (try clear hi)))
    go_ret
    exact ⟨by first | rfl | (simp [errW_none, errW_some] <;> rfl) | (simp [*, errW_none, errW_some] <;> rfl), by repeat (first | (with_reducible first | exact HB.out | apply below_alloc | apply pw_below_drewN | apply below_drew1) | exact HB.out)⟩
end Go.Proofs.Ytakkhomjpflkbaa.F
namespace Go.Proofs.Ytakkhomjpflkbaa.F
open Go.RowKit Go.Proofs.YtakkhomjpflkbaaX Go.Proofs.YtakkhomjpflkbaaW.PrintWords Go.Proofs.YtakkhomjpflkbaaW.PrintLast Go.Proofs.YtakkhomjpflkbaaW.PrintMore
attribute [local go_sem] max2_int min2_int max_two min_two max_three min_three max_four min_four   
attribute [local go_sem high] str_geq str_leq str_gtr
set_option linter.unusedVariables false
set_option linter.unusedSimpArgs false
def strict_Reader_Serial.f (k : Nat) (s0_0 : ByteArray) (s0_1 : Int) (s0_2 : Option (Int × Int)) (s0_3 : Bool) : Option (ByteArray × ByteArray × Int × Option (Int × Int) × Bool) := (strict_Reader_goes.f s0_0 s0_1 s0_2 s0_3).bind fun bt464 => (if bt464.1 = true then ((octet_Take.f k bt464.2.1 bt464.2.2.1 16).bind fun bt469 => (if bt469.2.2 = 0 then ((serial_Check.f bt469.1).bind fun t473 => ((strict_Reader_done.f bt464.2.1 bt464.2.2.1 bt464.2.2.2.1 bt464.2.2.2.2 bt469.2.1 t473).bind fun bt474 => (if bt474.1 = true then (some (bt469.1, bt474.2.1, bt474.2.2.1, bt474.2.2.2.1, bt474.2.2.2.2)) else (some ((⟨#[]⟩ : ByteArray), bt474.2.1, bt474.2.2.1, bt474.2.2.2.1, bt474.2.2.2.2))))) else ((strict_Reader_done.f bt464.2.1 bt464.2.2.1 bt464.2.2.2.1 bt464.2.2.2.2 bt469.2.1 bt469.2.2).bind fun bt479 => (if bt479.1 = true then (some (bt469.1, bt479.2.1, bt479.2.2.1, bt479.2.2.2.1, bt479.2.2.2.2)) else (some ((⟨#[]⟩ : ByteArray), bt479.2.1, bt479.2.2.1, bt479.2.2.2.1, bt479.2.2.2.2)))))) else (some ((⟨#[]⟩ : ByteArray), bt464.2.1, bt464.2.2.1, bt464.2.2.2.1, bt464.2.2.2.2)))
theorem strict_Reader_Serial.mono : ∀ a0 a1 a2 a3 k, LeO (strict_Reader_Serial.f k a0 a1 a2 a3) (strict_Reader_Serial.f (k + 1) a0 a1 a2 a3) := by
  intro a0 a1 a2 a3 k
  unfold strict_Reader_Serial.f
  repeat' first
      | (with_reducible exact octet_Take.mono _ _ _ _)
      | (with_reducible exact LeO.refl _)
      | (with_reducible exact LeO.none _)
      | (with_reducible refine LeO.ite ?_ ?_)
      | (with_reducible refine LeO.bind ?_ (fun _ => ?_))
      | exact octet_Take.mono _ _ _ _
      | exact LeO.none _
      | refine LeO.ite ?_ ?_
      | refine LeO.bind ?_ (fun _ => ?_)
def strict_Reader_Serial.T3 : Bool × List (List Nat × List Nat) := (true, [([], []), ([0], [0]), ([1], [1]), ([2], [2]), ([], []), ([4], [4]), ([5], [5]), ([6], [6]), ([3, 7], [3, 7]), ([8], [8]), ([9], [9]), ([9], [9]), ([], []), ([12, 10, 8, 0, 1, 2, 3, 4, 5, 6, 7, 8, 9, 10, 12], [10, 12]), ([11, 13, 0, 1, 2, 3, 4, 5, 6, 7, 8, 9, 10, 11, 12, 13], [11])])
def strict_Reader_Serial.B3 : List Nat := [0, 1, 3, 7, 0, 16, 48, 112, 255, 511, 1023, 1023, 0, 6143, 16383]
theorem strict_Reader_Serial.tab3 : rtab .any (opsOf Try.f43 3) = strict_Reader_Serial.T3 := by kernel_rfl
theorem strict_Reader_Serial.bits3 : waitsOk strict_Reader_Serial.T3.2 strict_Reader_Serial.B3 = true := by kernel_rfl
set_option maxHeartbeats 8000000 in
set_option maxRecDepth 100000 in
theorem strict_Reader_Serial.calls (k : Nat) (g : Nat) (s0_0 : ByteArray) (s0_1 : Int) (s0_2 : Option (Int × Int)) (s0_3 : Bool) (r1 : ByteArray) (r2 : ByteArray) (r3 : Int) (r4 : Option (Int × Int)) (r5 : Bool) (w0 w : World) (hI : IsS56 w0 w g s0_0 s0_1 s0_2 s0_3) (hB : Below w0.heap.size w0 w) (h : strict_Reader_Serial.f k s0_0 s0_1 s0_2 s0_3 = some (r1, r2, r3, r4, r5)) :
    Calls Try.prog 43 #[.pointer (some ⟨g, 0, none⟩)] w fun e w' => e = .returned (.string r1) ∧ IsS56 w0 w' g r2 r3 r4 r5 ∧ Below w0.heap.size w0 w' ∧ KeepBut w w' g none := by
  have hu207 := Try.underlying207
  have HI0 := Aside0.mk hI
  have HK := Aside0.mk (KeepBut.refl w g none)
  have HL := Aside0.mk hB.size
  clear hI
  have HW0 := Aside0.mk hB.size
  have HB := Aside0.mk hB
  clear hB
  have H : ((strict_Reader_goes.f s0_0 s0_1 s0_2 s0_3).bind fun bt464 => (if bt464.1 = true then ((octet_Take.f k bt464.2.1 bt464.2.2.1 16).bind fun bt469 => (if bt469.2.2 = 0 then ((serial_Check.f bt469.1).bind fun t473 => ((strict_Reader_done.f bt464.2.1 bt464.2.2.1 bt464.2.2.2.1 bt464.2.2.2.2 bt469.2.1 t473).bind fun bt474 => (if bt474.1 = true then (some (bt469.1, bt474.2.1, bt474.2.2.1, bt474.2.2.2.1, bt474.2.2.2.2)) else (some ((⟨#[]⟩ : ByteArray), bt474.2.1, bt474.2.2.1, bt474.2.2.2.1, bt474.2.2.2.2))))) else ((strict_Reader_done.f bt464.2.1 bt464.2.2.1 bt464.2.2.2.1 bt464.2.2.2.2 bt469.2.1 bt469.2.2).bind fun bt479 => (if bt479.1 = true then (some (bt469.1, bt479.2.1, bt479.2.2.1, bt479.2.2.2.1, bt479.2.2.2.2)) else (some ((⟨#[]⟩ : ByteArray), bt479.2.1, bt479.2.2.1, bt479.2.2.2.1, bt479.2.2.2.2)))))) else (some ((⟨#[]⟩ : ByteArray), bt464.2.1, bt464.2.2.1, bt464.2.2.2.1, bt464.2.2.2.2)))) = some (r1, r2, r3, r4, r5) := h
  clear h
  replace H := Option.bind_eq_some_iff.mp H
  obtain ⟨⟨t464, s0_0, s0_1, s0_2, s0_3⟩, A20, H⟩ := H
  obtain ⟨rfl, rfl, rfl, rfl⟩ := strict_Reader_goes.same A20
  replace H : (if t464 = true then ((octet_Take.f k s0_0 s0_1 16).bind fun bt469 => (if bt469.2.2 = 0 then ((serial_Check.f bt469.1).bind fun t473 => ((strict_Reader_done.f s0_0 s0_1 s0_2 s0_3 bt469.2.1 t473).bind fun bt474 => (if bt474.1 = true then (some (bt469.1, bt474.2.1, bt474.2.2.1, bt474.2.2.2.1, bt474.2.2.2.2)) else (some ((⟨#[]⟩ : ByteArray), bt474.2.1, bt474.2.2.1, bt474.2.2.2.1, bt474.2.2.2.2))))) else ((strict_Reader_done.f s0_0 s0_1 s0_2 s0_3 bt469.2.1 bt469.2.2).bind fun bt479 => (if bt479.1 = true then (some (bt469.1, bt479.2.1, bt479.2.2.1, bt479.2.2.2.1, bt479.2.2.2.2)) else (some ((⟨#[]⟩ : ByteArray), bt479.2.1, bt479.2.2.1, bt479.2.2.2.1, bt479.2.2.2.2)))))) else (some ((⟨#[]⟩ : ByteArray), s0_0, s0_1, s0_2, s0_3))) = some (r1, r2, r3, r4, r5) := H
  have A2 := Aside0.mk A20
  clear A20
  by_cases c3 : t464 = true
  · subst c3
    have H1 : ((octet_Take.f k s0_0 s0_1 16).bind fun bt469 => (if bt469.2.2 = 0 then ((serial_Check.f bt469.1).bind fun t473 => ((strict_Reader_done.f s0_0 s0_1 s0_2 s0_3 bt469.2.1 t473).bind fun bt474 => (if bt474.1 = true then (some (bt469.1, bt474.2.1, bt474.2.2.1, bt474.2.2.2.1, bt474.2.2.2.2)) else (some ((⟨#[]⟩ : ByteArray), bt474.2.1, bt474.2.2.1, bt474.2.2.2.1, bt474.2.2.2.2))))) else ((strict_Reader_done.f s0_0 s0_1 s0_2 s0_3 bt469.2.1 bt469.2.2).bind fun bt479 => (if bt479.1 = true then (some (bt469.1, bt479.2.1, bt479.2.2.1, bt479.2.2.2.1, bt479.2.2.2.2)) else (some ((⟨#[]⟩ : ByteArray), bt479.2.1, bt479.2.2.1, bt479.2.2.2.1, bt479.2.2.2.2)))))) = some (r1, r2, r3, r4, r5) := by first | (rw [if_pos rfl] at H; exact H) | rfl
    clear H
    have H := H1
    clear H1
    replace H := Option.bind_eq_some_iff.mp H
    obtain ⟨⟨t469, t470, t471⟩, A40, H⟩ := H
    replace H : (if t471 = 0 then ((serial_Check.f t469).bind fun t473 => ((strict_Reader_done.f s0_0 s0_1 s0_2 s0_3 t470 t473).bind fun bt474 => (if bt474.1 = true then (some (t469, bt474.2.1, bt474.2.2.1, bt474.2.2.2.1, bt474.2.2.2.2)) else (some ((⟨#[]⟩ : ByteArray), bt474.2.1, bt474.2.2.1, bt474.2.2.2.1, bt474.2.2.2.2))))) else ((strict_Reader_done.f s0_0 s0_1 s0_2 s0_3 t470 t471).bind fun bt479 => (if bt479.1 = true then (some (t469, bt479.2.1, bt479.2.2.1, bt479.2.2.2.1, bt479.2.2.2.2)) else (some ((⟨#[]⟩ : ByteArray), bt479.2.1, bt479.2.2.1, bt479.2.2.2.1, bt479.2.2.2.2))))) = some (r1, r2, r3, r4, r5) := H
    have A4 := Aside0.mk A40
    clear A40
    by_cases c5 : t471 = 0
    · rw [if_pos c5] at H
      have c5b0 : (t471 == 0) = true := beq_iff_eq.mpr c5
      have c5b1 : (t471 != 0) = false := bne_eq_false_iff_eq.mpr c5
      clear c5
      replace H := Option.bind_eq_some_iff.mp H
      obtain ⟨t473, A60, H⟩ := H
      replace H : ((strict_Reader_done.f s0_0 s0_1 s0_2 s0_3 t470 t473).bind fun bt474 => (if bt474.1 = true then (some (t469, bt474.2.1, bt474.2.2.1, bt474.2.2.2.1, bt474.2.2.2.2)) else (some ((⟨#[]⟩ : ByteArray), bt474.2.1, bt474.2.2.1, bt474.2.2.2.1, bt474.2.2.2.2)))) = some (r1, r2, r3, r4, r5) := H
      have A6 := Aside0.mk A60
      clear A60
      replace H := Option.bind_eq_some_iff.mp H
      obtain ⟨⟨t474, t475, t476, t477, t478⟩, A70, H⟩ := H
      replace H : (if t474 = true then (some (t469, t475, t476, t477, t478)) else (some ((⟨#[]⟩ : ByteArray), t475, t476, t477, t478))) = some (r1, r2, r3, r4, r5) := H
      have A7 := Aside0.mk A70
      clear A70
      by_cases c8 : t474 = true
      · subst c8
        have H1 : (some (t469, t475, t476, t477, t478)) = some (r1, r2, r3, r4, r5) := by first | (rw [if_pos rfl] at H; exact H) | rfl
        clear H
        have H := H1
        clear H1
        simp only [Option.some.injEq, Prod.mk.injEq] at H
        obtain ⟨rfl, rfl, rfl, rfl, rfl⟩ := H
        go_enter Try.func43, Try.ntmps43
        try go_wp2_with (first | ((with_reducible refine gate_callee (f := 133) rfl ?_); refine goesL_ (some 6) rfl rfl Try.func133 (by kernel_rfl) rfl #[.pointer (some ⟨g, 0, none⟩)] rfl (by (try simp only [List.map_toArray, List.map_cons, List.map_nil]); first | done | rfl | (simp only [List.length_drop, List.length_take]; rfl)) ?_; (with_reducible refine (strict_Reader_goes.calls g s0_0 s0_1 s0_2 s0_3 true s0_0 s0_1 s0_2 s0_3 w0 _ ?side1 ?side2 A2.out).mono ?_); (case side1 => repeat (first | (with_reducible first | exact HI0.out | apply IsS56.alloc | apply IsS56.drewN | apply IsS56.drew | apply IsS56.set_0 | apply IsS56.set_1 | apply IsS56.set_2 | apply IsS56.set_3 | apply IsS56.sete_2 | with_unfolding_all rfl) | exact HI0.out)); (case side2 => repeat (first | (with_reducible first | exact HB.out | apply below_alloc | apply pw_below_drewN | apply below_drew1 | refine below_set ?_ (IsS56.ge HI0.out)) | exact HB.out)); rintro e w9 ⟨rfl, hi, hb, hk⟩; refine ⟨_, rfl, ?_⟩; have n0_ := Aside0.mk (KeepBut.trans (by repeat (first | (with_reducible first | exact HK.out | apply KeepBut.set_ | apply keep_drewN | apply keep_drew | apply keep_alloc) | exact HK.out)) hk (.inl rfl)); have n1_ := Aside0.mk (hb); have n2_ := Aside0.mk (hi); clear HK; clear HB; clear HI0; have HK := n0_; have HB := n1_; have HI0 := n2_; clear n0_ n1_ n2_; (try clear hb); (try clear hb2); (try clear hk); (try clear hi); (try simp only [errW_none, errW_some]); have BKp0 : Aside0 (w9.heap[g]? = some (.cells #[.string s0_0, .int .i64 s0_1, errW s0_2, .bool s0_3] 56 (0, 0))) := ⟨by obtain ⟨hb_, _⟩ := HI0.out; exact hb_⟩))
        have n0_ := Aside0.mk (blk_drew BKp0.out)
        have n1_ := Aside0.mk (IsS56.drew HI0.out)
        have n2_ := Aside0.mk (keep_drew HK.out)
        have n3_ := Aside0.mk (below_drew1 HB.out)
        clear BKp0
        clear HI0
        clear HK
        clear HB
        have BKp0 := n0_
        have HI0 := n1_
        have HK := n2_
        have HB := n3_
        clear n0_ n1_ n2_ n3_
        refine start_ (n := 15) (S := fun w' => w'.cell? ⟨g, 0, none⟩ = some (.string s0_0) ∧ w'.cell? ⟨g, 1, none⟩ = some (.int .i64 s0_1) ∧ w'.cell? ⟨g, 2, none⟩ = some (errW s0_2) ∧ w'.cell? ⟨g, 3, none⟩ = some (.bool s0_3)) (ds := []) #[false, false, false, false, false, false, false, false, false, false, false, false, false, false, false] (by kernel_rfl) rfl rfl ⟨(blk_cell BKp0.out 0).trans rfl, (blk_cell BKp0.out 1).trans rfl, (blk_cell BKp0.out 2).trans rfl, (blk_cell BKp0.out 3).trans rfl⟩ (fun hHeld => ?_); refine with_tabW strict_Reader_Serial.tab3 strict_Reader_Serial.bits3 (fun HT_ HW_ => ?_)
        generalize w9.drew = w10 at BKp0 HI0 HK HB hHeld ⊢
        refine pure_ (i := 0) (N := some 9) (v := ?_) (a' := ?_) #[true, false, false, false, false, false, false, false, false, false, false, false, false, false, false] rfl rfl (any_of HT_.out (by kernel_rfl)) (fun _ _ _ h => h) (Or.inl ⟨by rfl, ?_⟩) ?_ ?_
        rotate_left
        · intro w'
          go_simp
          with_reducible rfl
        rotate_left
        · simp only [Act.put, List.setIfInBounds_toArray, List.set_cons_zero, List.set_cons_succ, i64_w, i32_w]
          rfl
        refine pure_ (i := 1) (N := some 10) (v := ?_) (a' := ?_) #[true, true, false, false, false, false, false, false, false, false, false, false, false, false, false] rfl rfl (any_of HT_.out (by kernel_rfl)) (fun _ _ _ h => h) (Or.inl ⟨by rfl, ?_⟩) ?_ ?_
        rotate_left
        · intro w'
          go_simp
          with_reducible rfl
        rotate_left
        · simp only [Act.put, List.setIfInBounds_toArray, List.set_cons_zero, List.set_cons_succ, i64_w, i32_w]
          rfl
        refine pure_ (i := 2) (N := some 11) (v := ?_) (a' := ?_) #[true, true, true, false, false, false, false, false, false, false, false, false, false, false, false] rfl rfl (any_of HT_.out (by kernel_rfl)) (fun _ _ _ h => h) (Or.inl ⟨by rfl, ?_⟩) ?_ ?_
        rotate_left
        · intro w'
          go_simp
          with_reducible rfl
        rotate_left
        · simp only [Act.put, List.setIfInBounds_toArray, List.set_cons_zero, List.set_cons_succ, i64_w, i32_w]
          rfl
        refine pure_ (i := 4) (N := some 13) (v := ?_) (a' := ?_) #[true, true, true, false, true, false, false, false, false, false, false, false, false, false, false] rfl rfl (any_of HT_.out (by kernel_rfl)) (fun _ _ _ h => h) (Or.inl ⟨by rfl, ?_⟩) ?_ ?_
        rotate_left
        · intro w'
          go_simp
          with_reducible rfl
        rotate_left
        · simp only [Act.put, List.setIfInBounds_toArray, List.set_cons_zero, List.set_cons_succ, i64_w, i32_w]
          rfl
        refine pure_ (i := 5) (N := some 14) (v := ?_) (a' := ?_) #[true, true, true, false, true, true, false, false, false, false, false, false, false, false, false] rfl rfl (any_of HT_.out (by kernel_rfl)) (fun _ _ _ h => h) (Or.inl ⟨by rfl, ?_⟩) ?_ ?_
        rotate_left
        · intro w'
          go_simp
          with_reducible rfl
        rotate_left
        · simp only [Act.put, List.setIfInBounds_toArray, List.set_cons_zero, List.set_cons_succ, i64_w, i32_w]
          rfl
        refine pure_ (i := 6) (N := some 15) (v := ?_) (a' := ?_) #[true, true, true, false, true, true, true, false, false, false, false, false, false, false, false] rfl rfl (any_of HT_.out (by kernel_rfl)) (fun _ _ _ h => h) (Or.inl ⟨by rfl, ?_⟩) ?_ ?_
        rotate_left
        · intro w'
          go_simp
          with_reducible rfl
        rotate_left
        · simp only [Act.put, List.setIfInBounds_toArray, List.set_cons_zero, List.set_cons_succ, i64_w, i32_w]
          rfl
        refine take_ (i := 3) (N := some 12) (v := ?_) (a' := ?_) #[true, true, true, true, true, true, true, false, false, false, false, false, false, false, false] rfl rfl (take_ofW HT_.out HW_.out (by kernel_rfl)) (fun _ _ _ h => h) (Or.inl ⟨by rfl, ?_⟩) hHeld ?_ ?_
        rotate_left
        · rintro w' ⟨s0, s1, s2, s3⟩
          go_simp
          with_reducible rfl
        rotate_left
        · simp only [Act.put, List.setIfInBounds_toArray, List.set_cons_zero, List.set_cons_succ, i64_w, i32_w]
          rfl
        refine take_ (i := 7) (N := some 16) (v := ?_) (a' := ?_) #[true, true, true, true, true, true, true, true, false, false, false, false, false, false, false] rfl rfl (take_ofW HT_.out HW_.out (by kernel_rfl)) (fun _ _ _ h => h) (Or.inl ⟨by rfl, ?_⟩) hHeld ?_ ?_
        rotate_left
        · rintro w' ⟨s0, s1, s2, s3⟩
          go_simp
          with_reducible rfl
        rotate_left
        · simp only [Act.put, List.setIfInBounds_toArray, List.set_cons_zero, List.set_cons_succ, i64_w, i32_w]
          rfl
        refine join_ (σ := Nat) 2 #[true, true, true, true, true, true, true, true, true, true, true, true, true, false, false] (fun s_ => [(17, .tuple #[.agg #[.string t469, .int .i64 t470], .int .i64 t471]), (3, .pointer (some ⟨s_, 0, none⟩)), (8, .tuple #[.agg #[.string t469, .int .i64 t470], .int .i64 t471]), (18, .agg #[.string t469, .int .i64 t470]), (19, .int .i64 t471)]) (fun s_ w' => (w'.cell? ⟨g, 0, none⟩ = some (.string s0_0) ∧ w'.cell? ⟨g, 1, none⟩ = some (.int .i64 s0_1) ∧ w'.cell? ⟨g, 2, none⟩ = some (errW s0_2) ∧ w'.cell? ⟨g, 3, none⟩ = some (.bool s0_3)) ∧ (w'.heap[s_]? = some (.cells #[.string (⟨#[]⟩ : ByteArray), .int .i64 0] 207 (0, 0))) ∧ (w'.heap[g]? = some (.cells #[.string s0_0, .int .i64 s0_1, errW s0_2, .bool s0_3] 56 (0, 0))) ∧ (w.heap.size ≤ s_) ∧ (w0.heap.size ≤ s_) ∧ (g ≠ s_) ∧ (s_ ≠ g) ∧ (IsS56 w0 w' g s0_0 s0_1 s0_2 s0_3) ∧ (KeepBut w w' g none) ∧ (Below w0.heap.size w0 w')) ?_ ?_
        rotate_left
        · intro hCont
          refine two_ (i := 8) (j := 12) (Ni := some 17) (Nj := some 3) #[true, true, true, true, true, true, true, true, true, false, false, false, false, false, false] #[true, true, true, true, true, true, true, true, false, false, false, false, true, false, false] rfl rfl rfl rfl (two_of HT_.out (by kernel_rfl)) (by decide) (by decide) (fun K hK => ?_) (fun K hK => ?_)
          · skip
            refine goes_ Try.func136 (by kernel_rfl) rfl #[.string s0_0, .int .i64 s0_1, .int .i64 16] (by rfl) rfl rfl (by (try simp only [List.map_toArray, List.map_cons, List.map_nil]); first | done | rfl | (simp only [List.length_drop, List.length_take]; rfl)) ?_
            with_reducible refine (octet_Take.calls k s0_0 s0_1 16 t469 t470 t471 _ A4.out).mono ?_
            rintro e w11 ⟨rfl, hb⟩
            refine ⟨_, rfl, ?_⟩
            have n0_ := Aside0.mk (IsS56.below (by repeat (first | (with_reducible first | exact HI0.out | apply IsS56.alloc | apply IsS56.drewN | apply IsS56.drew | apply IsS56.set_0 | apply IsS56.set_1 | apply IsS56.set_2 | apply IsS56.set_3 | apply IsS56.sete_2 | with_unfolding_all rfl | refine IsS56.far ?_ NB0_0.out _) | exact HI0.out)) hb)
            have n1_ := Aside0.mk (blk_below (g := g) (o := .cells #[.string s0_0, .int .i64 s0_1, errW s0_2, .bool s0_3] 56 (0, 0)) (by (with_reducible repeat (first | refine blk_drewN ?_ _ | refine blk_drew ?_ | refine blk_alloc ?_ _)); exact BKp0.out) hb)
            have n2_ := Aside0.mk (KeepBut.trans (by repeat (first | (with_reducible first | exact HK.out | apply KeepBut.set_ | apply keep_drewN | apply keep_drew | apply keep_alloc | refine keep_far ?_ GW0.out _) | exact HK.out)) (KeepBut.of_below hb g none) (.inl rfl))
            have n3_ := Aside0.mk (below_step (by repeat (first | (with_reducible first | exact HB.out | apply below_alloc | apply pw_below_drewN | apply below_drew1 | refine below_set ?_ (IsS56.ge HI0.out) | refine below_set ?_ GE0.out) | exact HB.out)) hb)
            clear HI0
            clear BKp0
            clear HK
            clear HB
            have HI0 := n0_
            have BKp0 := n1_
            have HK := n2_
            have HB := n3_
            clear n0_ n1_ n2_ n3_
            (try clear hb)
            (try clear hb2)
            (try clear hk)
            (try clear hi)
            refine hK.out _ _ ⟨(blk_cell BKp0.out 0).trans rfl, (blk_cell BKp0.out 1).trans rfl, (blk_cell BKp0.out 2).trans rfl, (blk_cell BKp0.out 3).trans rfl⟩ (fun hHeld => ?_)
            clear hK K
            refine norm_ (a' := ?_) ?_ ?_
            rotate_left
            · show Act.put _ (some 17) _ = _
              simp only [Act.put, List.setIfInBounds_toArray, List.set_cons_zero, List.set_cons_succ, i64_w, i32_w]
              rfl
            refine pure_ (i := 9) (N := some 8) (v := ?_) (a' := ?_) #[true, true, true, true, true, true, true, true, true, true, false, false, false, false, false] rfl rfl (any_of HT_.out (by kernel_rfl)) (fun _ _ _ h => h) (Or.inl ⟨by rfl, ?_⟩) ?_ ?_
            rotate_left
            · intro w'
              go_simp
              with_reducible rfl
            rotate_left
            · simp only [Act.put, List.setIfInBounds_toArray, List.set_cons_zero, List.set_cons_succ, i64_w, i32_w]
              rfl
            refine pure_ (i := 10) (N := some 18) (v := ?_) (a' := ?_) #[true, true, true, true, true, true, true, true, true, true, true, false, false, false, false] rfl rfl (any_of HT_.out (by kernel_rfl)) (fun _ _ _ h => h) (Or.inl ⟨by rfl, ?_⟩) ?_ ?_
            rotate_left
            · intro w'
              go_simp
              with_reducible rfl
            rotate_left
            · simp only [Act.put, List.setIfInBounds_toArray, List.set_cons_zero, List.set_cons_succ, i64_w, i32_w]
              rfl
            refine pure_ (i := 11) (N := some 19) (v := ?_) (a' := ?_) #[true, true, true, true, true, true, true, true, true, true, true, true, false, false, false] rfl rfl (any_of HT_.out (by kernel_rfl)) (fun _ _ _ h => h) (Or.inl ⟨by rfl, ?_⟩) ?_ ?_
            rotate_left
            · intro w'
              go_simp
              with_reducible rfl
            rotate_left
            · simp only [Act.put, List.setIfInBounds_toArray, List.set_cons_zero, List.set_cons_succ, i64_w, i32_w]
              rfl
            refine one_ (i := 12) (N := some 3) #[true, true, true, true, true, true, true, true, true, true, true, true, true, false, false] rfl rfl (one_of HT_.out (by kernel_rfl)) (by decide) (fun K hK => ?_)
            refine box_step ?hg (N := 3) ?hd (cs := #[.string (⟨#[]⟩ : ByteArray), .int .i64 0]) (t := 207) ?hr ?_; (case hd => rfl); (case hg => rfl); (case hr => first | (go_simp; done) | (go_simp; rfl))
            intro gb472 hg w12 hbox hb
            have n0_ := Aside0.mk (IsS56.below (by repeat (first | (with_reducible first | exact HI0.out | apply IsS56.alloc | apply IsS56.drewN | apply IsS56.drew | apply IsS56.set_0 | apply IsS56.set_1 | apply IsS56.set_2 | apply IsS56.set_3 | apply IsS56.sete_2 | with_unfolding_all rfl | refine IsS56.far ?_ NB0_0.out _) | exact HI0.out)) hb)
            have n1_ := Aside0.mk (blk_below (g := g) (o := .cells #[.string s0_0, .int .i64 s0_1, errW s0_2, .bool s0_3] 56 (0, 0)) (by (with_reducible repeat (first | refine blk_drewN ?_ _ | refine blk_drew ?_ | refine blk_alloc ?_ _)); exact BKp0.out) hb)
            have n2_ := Aside0.mk (KeepBut.trans (by repeat (first | (with_reducible first | exact HK.out | apply KeepBut.set_ | apply keep_drewN | apply keep_drew | apply keep_alloc | refine keep_far ?_ GW0.out _) | exact HK.out)) (KeepBut.of_below hb g none) (.inl rfl))
            have n3_ := Aside0.mk (below_step (by repeat (first | (with_reducible first | exact HB.out | apply below_alloc | apply pw_below_drewN | apply below_drew1 | refine below_set ?_ (IsS56.ge HI0.out) | refine below_set ?_ GE0.out) | exact HB.out)) hb)
            have n4_ := Aside0.mk (hbox)
            have n5_ := Aside0.mk ((by rw [hg]; exact (keep_size (w := w) (g := g) (row := none) (by repeat (first | (with_reducible first | exact HK.out | apply KeepBut.set_ | apply keep_drewN | apply keep_drew | apply keep_alloc | refine keep_far ?_ GW0.out _) | exact HK.out))) : w.heap.size ≤ gb472))
            have n6_ := Aside0.mk ((Nat.le_trans HW0.out (by rw [hg]; exact (keep_size (w := w) (g := g) (row := none) (by repeat (first | (with_reducible first | exact HK.out | apply KeepBut.set_ | apply keep_drewN | apply keep_drew | apply keep_alloc | refine keep_far ?_ GW0.out _) | exact HK.out))) : w.heap.size ≤ gb472) : w0.heap.size ≤ gb472))
            have n7_ := Aside0.mk ((by rw [hg]; exact Nat.ne_of_lt (blk_lt (g := g) (o := .cells #[.string s0_0, .int .i64 s0_1, errW s0_2, .bool s0_3] 56 (0, 0)) (by (with_reducible repeat (first | refine blk_drewN ?_ _ | refine blk_drew ?_ | refine blk_alloc ?_ _)); exact BKp0.out)) : g ≠ gb472))
            have n8_ := Aside0.mk ((by rw [hg]; exact Nat.ne_of_gt (blk_lt (g := g) (o := .cells #[.string s0_0, .int .i64 s0_1, errW s0_2, .bool s0_3] 56 (0, 0)) (by (with_reducible repeat (first | refine blk_drewN ?_ _ | refine blk_drew ?_ | refine blk_alloc ?_ _)); exact BKp0.out)) : gb472 ≠ g))
            have n9_ := Aside0.mk ((by rw [hg]; exact Nat.ne_of_lt (IsS56.lt (show IsS56 w0 _ g s0_0 s0_1 s0_2 s0_3 from by repeat (first | (with_reducible first | exact HI0.out | apply IsS56.alloc | apply IsS56.drewN | apply IsS56.drew | apply IsS56.set_0 | apply IsS56.set_1 | apply IsS56.set_2 | apply IsS56.set_3 | apply IsS56.sete_2 | with_unfolding_all rfl | refine IsS56.far ?_ NB0_0.out _) | exact HI0.out))) : g ≠ gb472))
            have n10_ := Aside0.mk ((by rw [hg]; exact Nat.ne_of_gt (IsS56.lt (show IsS56 w0 _ g s0_0 s0_1 s0_2 s0_3 from by repeat (first | (with_reducible first | exact HI0.out | apply IsS56.alloc | apply IsS56.drewN | apply IsS56.drew | apply IsS56.set_0 | apply IsS56.set_1 | apply IsS56.set_2 | apply IsS56.set_3 | apply IsS56.sete_2 | with_unfolding_all rfl | refine IsS56.far ?_ NB0_0.out _) | exact HI0.out))) : gb472 ≠ g))
            clear HI0
            clear BKp0
            clear HK
            clear HB
            have HI0 := n0_
            have BKp0 := n1_
            have HK := n2_
            have HB := n3_
            have BK472 := n4_
            have GW472 := n5_
            have GE472 := n6_
            have NB0_472 := n7_
            have NB472_0 := n8_
            have NB0_472 := n9_
            have NB472_0 := n10_
            clear n0_ n1_ n2_ n3_ n4_ n5_ n6_ n7_ n8_ n9_ n10_
            clear hb hbox hg
            refine hK.out _ _ ⟨(blk_cell BKp0.out 0).trans rfl, (blk_cell BKp0.out 1).trans rfl, (blk_cell BKp0.out 2).trans rfl, (blk_cell BKp0.out 3).trans rfl⟩ (fun hHeld => ?_)
            clear hK K
            refine norm_ (a' := ?_) ?_ ?_
            rotate_left
            · show Act.put _ (some 3) _ = _
              simp only [Act.put, List.setIfInBounds_toArray, List.set_cons_zero, List.set_cons_succ, i64_w, i32_w]
              rfl
            exact norm_ (by simp only [putAll, Act.put, List.setIfInBounds_toArray, List.set_cons_zero, List.set_cons_succ]) (hCont (gb472) _ ⟨hHeld, (by (with_reducible repeat (first | refine blk_drewN ?_ _ | refine blk_drew ?_ | refine blk_alloc ?_ _)); exact BK472.out), (by (with_reducible repeat (first | refine blk_drewN ?_ _ | refine blk_drew ?_ | refine blk_alloc ?_ _)); exact BKp0.out), GW472.out, GE472.out, NB0_472.out, NB472_0.out, (by repeat (first | (with_reducible first | exact HI0.out | apply IsS56.alloc | apply IsS56.drewN | apply IsS56.drew | apply IsS56.set_0 | apply IsS56.set_1 | apply IsS56.set_2 | apply IsS56.set_3 | apply IsS56.sete_2 | with_unfolding_all rfl | refine IsS56.far ?_ NB0_0.out _ | refine IsS56.far ?_ NB0_472.out _) | exact HI0.out)), (by repeat (first | (with_reducible first | exact HK.out | apply KeepBut.set_ | apply keep_drewN | apply keep_drew | apply keep_alloc | refine keep_far ?_ GW0.out _ | refine keep_far ?_ GW472.out _) | exact HK.out)), (by repeat (first | (with_reducible first | exact HB.out | apply below_alloc | apply pw_below_drewN | apply below_drew1 | refine below_set ?_ (IsS56.ge HI0.out) | refine below_set ?_ GE0.out | refine below_set ?_ GE472.out) | exact HB.out))⟩)
          · skip
            refine box_step ?hg (N := 3) ?hd (cs := #[.string (⟨#[]⟩ : ByteArray), .int .i64 0]) (t := 207) ?hr ?_; (case hd => rfl); (case hg => rfl); (case hr => first | (go_simp; done) | (go_simp; rfl))
            intro gb472 hg w11 hbox hb
            have n0_ := Aside0.mk (IsS56.below (by repeat (first | (with_reducible first | exact HI0.out | apply IsS56.alloc | apply IsS56.drewN | apply IsS56.drew | apply IsS56.set_0 | apply IsS56.set_1 | apply IsS56.set_2 | apply IsS56.set_3 | apply IsS56.sete_2 | with_unfolding_all rfl | refine IsS56.far ?_ NB0_0.out _) | exact HI0.out)) hb)
            have n1_ := Aside0.mk (blk_below (g := g) (o := .cells #[.string s0_0, .int .i64 s0_1, errW s0_2, .bool s0_3] 56 (0, 0)) (by (with_reducible repeat (first | refine blk_drewN ?_ _ | refine blk_drew ?_ | refine blk_alloc ?_ _)); exact BKp0.out) hb)
            have n2_ := Aside0.mk (KeepBut.trans (by repeat (first | (with_reducible first | exact HK.out | apply KeepBut.set_ | apply keep_drewN | apply keep_drew | apply keep_alloc | refine keep_far ?_ GW0.out _) | exact HK.out)) (KeepBut.of_below hb g none) (.inl rfl))
            have n3_ := Aside0.mk (below_step (by repeat (first | (with_reducible first | exact HB.out | apply below_alloc | apply pw_below_drewN | apply below_drew1 | refine below_set ?_ (IsS56.ge HI0.out) | refine below_set ?_ GE0.out) | exact HB.out)) hb)
            have n4_ := Aside0.mk (hbox)
            have n5_ := Aside0.mk ((by rw [hg]; exact (keep_size (w := w) (g := g) (row := none) (by repeat (first | (with_reducible first | exact HK.out | apply KeepBut.set_ | apply keep_drewN | apply keep_drew | apply keep_alloc | refine keep_far ?_ GW0.out _) | exact HK.out))) : w.heap.size ≤ gb472))
            have n6_ := Aside0.mk ((Nat.le_trans HW0.out (by rw [hg]; exact (keep_size (w := w) (g := g) (row := none) (by repeat (first | (with_reducible first | exact HK.out | apply KeepBut.set_ | apply keep_drewN | apply keep_drew | apply keep_alloc | refine keep_far ?_ GW0.out _) | exact HK.out))) : w.heap.size ≤ gb472) : w0.heap.size ≤ gb472))
            have n7_ := Aside0.mk ((by rw [hg]; exact Nat.ne_of_lt (blk_lt (g := g) (o := .cells #[.string s0_0, .int .i64 s0_1, errW s0_2, .bool s0_3] 56 (0, 0)) (by (with_reducible repeat (first | refine blk_drewN ?_ _ | refine blk_drew ?_ | refine blk_alloc ?_ _)); exact BKp0.out)) : g ≠ gb472))
            have n8_ := Aside0.mk ((by rw [hg]; exact Nat.ne_of_gt (blk_lt (g := g) (o := .cells #[.string s0_0, .int .i64 s0_1, errW s0_2, .bool s0_3] 56 (0, 0)) (by (with_reducible repeat (first | refine blk_drewN ?_ _ | refine blk_drew ?_ | refine blk_alloc ?_ _)); exact BKp0.out)) : gb472 ≠ g))
            have n9_ := Aside0.mk ((by rw [hg]; exact Nat.ne_of_lt (IsS56.lt (show IsS56 w0 _ g s0_0 s0_1 s0_2 s0_3 from by repeat (first | (with_reducible first | exact HI0.out | apply IsS56.alloc | apply IsS56.drewN | apply IsS56.drew | apply IsS56.set_0 | apply IsS56.set_1 | apply IsS56.set_2 | apply IsS56.set_3 | apply IsS56.sete_2 | with_unfolding_all rfl | refine IsS56.far ?_ NB0_0.out _) | exact HI0.out))) : g ≠ gb472))
            have n10_ := Aside0.mk ((by rw [hg]; exact Nat.ne_of_gt (IsS56.lt (show IsS56 w0 _ g s0_0 s0_1 s0_2 s0_3 from by repeat (first | (with_reducible first | exact HI0.out | apply IsS56.alloc | apply IsS56.drewN | apply IsS56.drew | apply IsS56.set_0 | apply IsS56.set_1 | apply IsS56.set_2 | apply IsS56.set_3 | apply IsS56.sete_2 | with_unfolding_all rfl | refine IsS56.far ?_ NB0_0.out _) | exact HI0.out))) : gb472 ≠ g))
            clear HI0
            clear BKp0
            clear HK
            clear HB
            have HI0 := n0_
            have BKp0 := n1_
            have HK := n2_
            have HB := n3_
            have BK472 := n4_
            have GW472 := n5_
            have GE472 := n6_
            have NB0_472 := n7_
            have NB472_0 := n8_
            have NB0_472 := n9_
            have NB472_0 := n10_
            clear n0_ n1_ n2_ n3_ n4_ n5_ n6_ n7_ n8_ n9_ n10_
            clear hb hbox hg
            refine hK.out _ _ ⟨(blk_cell BKp0.out 0).trans rfl, (blk_cell BKp0.out 1).trans rfl, (blk_cell BKp0.out 2).trans rfl, (blk_cell BKp0.out 3).trans rfl⟩ (fun hHeld => ?_)
            clear hK K
            refine norm_ (a' := ?_) ?_ ?_
            rotate_left
            · show Act.put _ (some 3) _ = _
              simp only [Act.put, List.setIfInBounds_toArray, List.set_cons_zero, List.set_cons_succ, i64_w, i32_w]
              rfl
            refine one_ (i := 8) (N := some 17) #[true, true, true, true, true, true, true, true, true, false, false, false, true, false, false] rfl rfl (one_of HT_.out (by kernel_rfl)) (by decide) (fun K hK => ?_)
            refine goes_ Try.func136 (by kernel_rfl) rfl #[.string s0_0, .int .i64 s0_1, .int .i64 16] (by rfl) rfl rfl (by (try simp only [List.map_toArray, List.map_cons, List.map_nil]); first | done | rfl | (simp only [List.length_drop, List.length_take]; rfl)) ?_
            with_reducible refine (octet_Take.calls k s0_0 s0_1 16 t469 t470 t471 _ A4.out).mono ?_
            rintro e w12 ⟨rfl, hb⟩
            refine ⟨_, rfl, ?_⟩
            have n0_ := Aside0.mk (IsS56.below (by repeat (first | (with_reducible first | exact HI0.out | apply IsS56.alloc | apply IsS56.drewN | apply IsS56.drew | apply IsS56.set_0 | apply IsS56.set_1 | apply IsS56.set_2 | apply IsS56.set_3 | apply IsS56.sete_2 | with_unfolding_all rfl | refine IsS56.far ?_ NB0_0.out _ | refine IsS56.far ?_ NB0_472.out _) | exact HI0.out)) hb)
            have n1_ := Aside0.mk (blk_below (g := g) (o := .cells #[.string s0_0, .int .i64 s0_1, errW s0_2, .bool s0_3] 56 (0, 0)) (by (with_reducible repeat (first | refine blk_drewN ?_ _ | refine blk_drew ?_ | refine blk_alloc ?_ _)); exact BKp0.out) hb)
            have n2_ := Aside0.mk (blk_below (g := gb472) (o := .cells #[.string (⟨#[]⟩ : ByteArray), .int .i64 0] 207 (0, 0)) (by (with_reducible repeat (first | refine blk_drewN ?_ _ | refine blk_drew ?_ | refine blk_alloc ?_ _)); exact BK472.out) hb)
            have n3_ := Aside0.mk (KeepBut.trans (by repeat (first | (with_reducible first | exact HK.out | apply KeepBut.set_ | apply keep_drewN | apply keep_drew | apply keep_alloc | refine keep_far ?_ GW0.out _ | refine keep_far ?_ GW472.out _) | exact HK.out)) (KeepBut.of_below hb g none) (.inl rfl))
            have n4_ := Aside0.mk (below_step (by repeat (first | (with_reducible first | exact HB.out | apply below_alloc | apply pw_below_drewN | apply below_drew1 | refine below_set ?_ (IsS56.ge HI0.out) | refine below_set ?_ GE0.out | refine below_set ?_ GE472.out) | exact HB.out)) hb)
            clear HI0
            clear BKp0
            clear BK472
            clear HK
            clear HB
            have HI0 := n0_
            have BKp0 := n1_
            have BK472 := n2_
            have HK := n3_
            have HB := n4_
            clear n0_ n1_ n2_ n3_ n4_
            (try clear hb)
            (try clear hb2)
            (try clear hk)
            (try clear hi)
            refine hK.out _ _ ⟨(blk_cell BKp0.out 0).trans rfl, (blk_cell BKp0.out 1).trans rfl, (blk_cell BKp0.out 2).trans rfl, (blk_cell BKp0.out 3).trans rfl⟩ (fun hHeld => ?_)
            clear hK K
            refine norm_ (a' := ?_) ?_ ?_
            rotate_left
            · show Act.put _ (some 17) _ = _
              simp only [Act.put, List.setIfInBounds_toArray, List.set_cons_zero, List.set_cons_succ, i64_w, i32_w]
              rfl
            refine pure_ (i := 9) (N := some 8) (v := ?_) (a' := ?_) #[true, true, true, true, true, true, true, true, true, true, false, false, true, false, false] rfl rfl (any_of HT_.out (by kernel_rfl)) (fun _ _ _ h => h) (Or.inl ⟨by rfl, ?_⟩) ?_ ?_
            rotate_left
            · intro w'
              go_simp
              with_reducible rfl
            rotate_left
            · simp only [Act.put, List.setIfInBounds_toArray, List.set_cons_zero, List.set_cons_succ, i64_w, i32_w]
              rfl
            refine pure_ (i := 10) (N := some 18) (v := ?_) (a' := ?_) #[true, true, true, true, true, true, true, true, true, true, true, false, true, false, false] rfl rfl (any_of HT_.out (by kernel_rfl)) (fun _ _ _ h => h) (Or.inl ⟨by rfl, ?_⟩) ?_ ?_
            rotate_left
            · intro w'
              go_simp
              with_reducible rfl
            rotate_left
            · simp only [Act.put, List.setIfInBounds_toArray, List.set_cons_zero, List.set_cons_succ, i64_w, i32_w]
              rfl
            refine pure_ (i := 11) (N := some 19) (v := ?_) (a' := ?_) #[true, true, true, true, true, true, true, true, true, true, true, true, true, false, false] rfl rfl (any_of HT_.out (by kernel_rfl)) (fun _ _ _ h => h) (Or.inl ⟨by rfl, ?_⟩) ?_ ?_
            rotate_left
            · intro w'
              go_simp
              with_reducible rfl
            rotate_left
            · simp only [Act.put, List.setIfInBounds_toArray, List.set_cons_zero, List.set_cons_succ, i64_w, i32_w]
              rfl
            exact norm_ (by simp only [putAll, Act.put, List.setIfInBounds_toArray, List.set_cons_zero, List.set_cons_succ]) (hCont (gb472) _ ⟨hHeld, (by (with_reducible repeat (first | refine blk_drewN ?_ _ | refine blk_drew ?_ | refine blk_alloc ?_ _)); exact BK472.out), (by (with_reducible repeat (first | refine blk_drewN ?_ _ | refine blk_drew ?_ | refine blk_alloc ?_ _)); exact BKp0.out), GW472.out, GE472.out, NB0_472.out, NB472_0.out, (by repeat (first | (with_reducible first | exact HI0.out | apply IsS56.alloc | apply IsS56.drewN | apply IsS56.drew | apply IsS56.set_0 | apply IsS56.set_1 | apply IsS56.set_2 | apply IsS56.set_3 | apply IsS56.sete_2 | with_unfolding_all rfl | refine IsS56.far ?_ NB0_0.out _ | refine IsS56.far ?_ NB0_472.out _) | exact HI0.out)), (by repeat (first | (with_reducible first | exact HK.out | apply KeepBut.set_ | apply keep_drewN | apply keep_drew | apply keep_alloc | refine keep_far ?_ GW0.out _ | refine keep_far ?_ GW472.out _) | exact HK.out)), (by repeat (first | (with_reducible first | exact HB.out | apply below_alloc | apply pw_below_drewN | apply below_drew1 | refine below_set ?_ (IsS56.ge HI0.out) | refine below_set ?_ GE0.out | refine below_set ?_ GE472.out) | exact HB.out))⟩)
        rintro gb472 w13 ⟨hS_, h0_, h1_, h2_, h3_, h4_, h5_, h6_, h7_, h8_⟩
        have n0_ : Aside0 (w13.heap[gb472]? = some (.cells #[.string (⟨#[]⟩ : ByteArray), .int .i64 0] 207 (0, 0))) := ⟨h0_⟩
        have n1_ : Aside0 (w13.heap[g]? = some (.cells #[.string s0_0, .int .i64 s0_1, errW s0_2, .bool s0_3] 56 (0, 0))) := ⟨h1_⟩
        have n2_ : Aside0 (w.heap.size ≤ gb472) := ⟨h2_⟩
        have n3_ : Aside0 (w0.heap.size ≤ gb472) := ⟨h3_⟩
        have n4_ : Aside0 (g ≠ gb472) := ⟨h4_⟩
        have n5_ : Aside0 (gb472 ≠ g) := ⟨h5_⟩
        have n6_ : Aside0 (IsS56 w0 w13 g s0_0 s0_1 s0_2 s0_3) := ⟨h6_⟩
        have n7_ : Aside0 (KeepBut w w13 g none) := ⟨h7_⟩
        have n8_ : Aside0 (Below w0.heap.size w0 w13) := ⟨h8_⟩
        clear BKp0
        clear HI0
        clear HK
        clear HB
        clear h0_ h1_ h2_ h3_ h4_ h5_ h6_ h7_ h8_
        have BK472 := n0_
        have BKp0 := n1_
        have GW472 := n2_
        have GE472 := n3_
        have NB0_472 := n4_
        have NB472_0 := n5_
        have HI0 := n6_
        have HK := n7_
        have HB := n8_
        clear n0_ n1_ n2_ n3_ n4_ n5_ n6_ n7_ n8_
        have hHeld : w13.cell? ⟨g, 0, none⟩ = some (.string s0_0) ∧ w13.cell? ⟨g, 1, none⟩ = some (.int .i64 s0_1) ∧ w13.cell? ⟨g, 2, none⟩ = some (errW s0_2) ∧ w13.cell? ⟨g, 3, none⟩ = some (.bool s0_3) := hS_
        refine norm_ (a' := ?_) ?_ ?_
        rotate_left
        · simp only [putAll, Act.put, List.setIfInBounds_toArray, List.set_cons_zero, List.set_cons_succ]
          rfl
        refine one_ (i := 13) (N := none) #[true, true, true, true, true, true, true, true, true, true, true, true, true, true, false] rfl rfl (one_of HT_.out (by kernel_rfl)) (by decide) (fun K hK => ?_)
        have hs14 : w13.cell? ⟨gb472, 0, none⟩ = some (.string (⟨#[]⟩ : ByteArray)) := (blk_cell BK472.out 0).trans rfl
        have hfs14 := blk_frozen BK472.out 0
        have hns14_0 := NB0_472.out
        have hms14_0 := NB472_0.out
        have hs15 : w13.cell? ⟨gb472, 1, none⟩ = some (.int .i64 0) := (blk_cell BK472.out 1).trans rfl
        have hfs15 := blk_frozen BK472.out 1
        have hns15_0 := NB0_472.out
        have hms15_0 := NB472_0.out
        refine skip_ (w1 := ?_) (by rfl) rfl ?_ ?_
        rotate_left
        · go_simp
          rfl
        refine hK.out _ _ ⟨((cell_far (p := ⟨gb472, _, none⟩) NB0_472.out _).trans (((cell_far (p := ⟨gb472, _, none⟩) NB0_472.out _).trans (hHeld.1)))), ((cell_far (p := ⟨gb472, _, none⟩) NB0_472.out _).trans (((cell_far (p := ⟨gb472, _, none⟩) NB0_472.out _).trans (hHeld.2.1)))), ((cell_far (p := ⟨gb472, _, none⟩) NB0_472.out _).trans (((cell_far (p := ⟨gb472, _, none⟩) NB0_472.out _).trans (hHeld.2.2.1)))), ((cell_far (p := ⟨gb472, _, none⟩) NB0_472.out _).trans (((cell_far (p := ⟨gb472, _, none⟩) NB0_472.out _).trans (hHeld.2.2.2))))⟩ (fun hHeld => ?_)
        clear hK K
        refine pure_ (i := 14) (N := some 4) (v := ?_) (a' := ?_) #[true, true, true, true, true, true, true, true, true, true, true, true, true, true, true] rfl rfl (any_of HT_.out (by kernel_rfl)) (fun _ _ _ h => h) (Or.inl ⟨by rfl, ?_⟩) ?_ ?_
        rotate_left
        · intro w'
          go_simp
          with_reducible rfl
        rotate_left
        · simp only [Act.put, List.setIfInBounds_toArray, List.set_cons_zero, List.set_cons_succ, i64_w, i32_w]
          rfl
        refine done_ (done_of HT_.out (by kernel_rfl)) ?_
        clear BKp0
        have hnb16 := NB472_0.out
        have hnc16 := NB0_472.out
        have hcz17_0 : w13.cell? ⟨gb472, 0, none⟩ = some (.string (⟨#[]⟩ : ByteArray)) := (blk_cell BK472.out 0).trans rfl
        have hcz17_1 : w13.cell? ⟨gb472, 1, none⟩ = some (.int .i64 0) := (blk_cell BK472.out 1).trans rfl
        have hfz17_0 := blk_frozen BK472.out 0
        have hfz17_1 := blk_frozen BK472.out 1
        try go_wp2_with (first | ((with_reducible refine gate_callee (f := 137) rfl ?_); refine goesL_ (some 24) rfl rfl Try.func137 (by kernel_rfl) rfl #[.string t469] rfl (by (try simp only [List.map_toArray, List.map_cons, List.map_nil]); first | done | rfl | (simp only [List.length_drop, List.length_take]; rfl)) ?_; (with_reducible refine (serial_Check.calls t469 t473 _ A6.out).mono ?_); rintro e w18 ⟨rfl, hb⟩; refine ⟨_, rfl, ?_⟩; have n0_ := Aside0.mk (IsS56.below (show IsS56 w0 ((w13.setCell ⟨gb472, 0, none⟩ (.string t469)).setCell ⟨gb472, 1, none⟩ (.int .i64 t470)) g s0_0 s0_1 s0_2 s0_3 from by repeat (first | (with_reducible first | exact HI0.out | apply IsS56.alloc | apply IsS56.drewN | apply IsS56.drew | apply IsS56.set_0 | apply IsS56.set_1 | apply IsS56.set_2 | apply IsS56.set_3 | apply IsS56.sete_2 | with_unfolding_all rfl | refine IsS56.far ?_ NB0_472.out _) | exact HI0.out)) hb); have n1_ := Aside0.mk (blk_below (g := gb472) (o := .cells #[.string t469, .int .i64 t470] 207 (0, 0)) (by (with_reducible repeat (first | refine blk_drewN ?_ _ | refine blk_drew ?_ | refine blk_alloc ?_ _)); refine blk_put (cs := #[.string t469, .int .i64 0]) ?_ 1 _ rfl; (with_reducible repeat (first | refine blk_drewN ?_ _ | refine blk_drew ?_ | refine blk_alloc ?_ _)); refine blk_put (cs := #[.string (⟨#[]⟩ : ByteArray), .int .i64 0]) ?_ 0 _ rfl; (with_reducible repeat (first | refine blk_drewN ?_ _ | refine blk_drew ?_ | refine blk_alloc ?_ _)); exact BK472.out) hb); have n2_ := Aside0.mk (KeepBut.trans (by repeat (first | (with_reducible first | exact HK.out | apply KeepBut.set_ | apply keep_drewN | apply keep_drew | apply keep_alloc | refine keep_far ?_ GW472.out _) | exact HK.out)) (KeepBut.of_below hb g none) (.inl rfl)); have n3_ := Aside0.mk (below_step (by repeat (first | (with_reducible first | exact HB.out | apply below_alloc | apply pw_below_drewN | apply below_drew1 | refine below_set ?_ (IsS56.ge HI0.out) | refine below_set ?_ GE472.out) | exact HB.out)) hb); clear HI0; clear BK472; clear HK; clear HB; have HI0 := n0_; have BK472 := n1_; have HK := n2_; have HB := n3_; clear n0_ n1_ n2_ n3_; (try clear hb); (try clear hb2); (try clear hk); (try clear hi); have hcz19_0 : w18.cell? ⟨gb472, 0, none⟩ = some (.string t469) := (blk_cell BK472.out 0).trans rfl; have hcz19_1 : w18.cell? ⟨gb472, 1, none⟩ = some (.int .i64 t470) := (blk_cell BK472.out 1).trans rfl; have hfz19_0 := blk_frozen BK472.out 0; have hfz19_1 := blk_frozen BK472.out 1) | ((with_reducible refine gate_callee (f := 135) rfl ?_); refine goesL_ (some 29) rfl rfl Try.func135 (by kernel_rfl) rfl #[.pointer (some ⟨g, 0, none⟩), .int .i64 t470, .int .i64 t473] rfl (by (try simp only [List.map_toArray, List.map_cons, List.map_nil]); first | done | rfl | (simp only [List.length_drop, List.length_take]; rfl)) ?_; (with_reducible refine (strict_Reader_done.calls g s0_0 s0_1 s0_2 s0_3 t470 t473 true t475 t476 t477 t478 w0 _ ?side1 ?side2 A7.out).mono ?_); (case side1 => repeat (first | (with_reducible first | exact HI0.out | apply IsS56.alloc | apply IsS56.drewN | apply IsS56.drew | apply IsS56.set_0 | apply IsS56.set_1 | apply IsS56.set_2 | apply IsS56.set_3 | apply IsS56.sete_2 | with_unfolding_all rfl | refine IsS56.far ?_ NB0_472.out _) | exact HI0.out)); (case side2 => repeat (first | (with_reducible first | exact HB.out | apply below_alloc | apply pw_below_drewN | apply below_drew1 | refine below_set ?_ (IsS56.ge HI0.out) | refine below_set ?_ GE472.out) | exact HB.out)); rintro e w20 ⟨rfl, hi, hb, hk⟩; refine ⟨_, rfl, ?_⟩; have n0_ := Aside0.mk (KeepBut.blk hk (g' := gb472) (o := .cells #[.string t469, .int .i64 t470] 207 (0, 0)) (by (with_reducible repeat (first | refine blk_drewN ?_ _ | refine blk_drew ?_ | refine blk_alloc ?_ _)); exact BK472.out) NB472_0.out (by simp)); have n1_ := Aside0.mk (KeepBut.trans (by repeat (first | (with_reducible first | exact HK.out | apply KeepBut.set_ | apply keep_drewN | apply keep_drew | apply keep_alloc | refine keep_far ?_ GW472.out _) | exact HK.out)) hk (.inl rfl)); have n2_ := Aside0.mk (hb); have n3_ := Aside0.mk (hi); clear BK472; clear HK; clear HB; clear HI0; have BK472 := n0_; have HK := n1_; have HB := n2_; have HI0 := n3_; clear n0_ n1_ n2_ n3_; (try clear hb); (try clear hb2); (try clear hk); (try clear hi); (try simp only [errW_none, errW_some]); have hcz21_0 : w20.cell? ⟨gb472, 0, none⟩ = some (.string t469) := (blk_cell BK472.out 0).trans rfl; have hcz21_1 : w20.cell? ⟨gb472, 1, none⟩ = some (.int .i64 t470) := (blk_cell BK472.out 1).trans rfl; have hfz21_0 := blk_frozen BK472.out 0; have hfz21_1 := blk_frozen BK472.out 1))
        go_ret
        exact ⟨by first | rfl | (simp [errW_none, errW_some] <;> rfl) | (simp [*, errW_none, errW_some] <;> rfl), by repeat (first | (with_reducible first | exact HI0.out | apply IsS56.alloc | apply IsS56.drewN | apply IsS56.drew | apply IsS56.set_0 | apply IsS56.set_1 | apply IsS56.set_2 | apply IsS56.set_3 | apply IsS56.sete_2 | with_unfolding_all rfl | refine IsS56.far ?_ NB0_472.out _) | exact HI0.out), by repeat (first | (with_reducible first | exact HB.out | apply below_alloc | apply pw_below_drewN | apply below_drew1 | refine below_set ?_ (IsS56.ge HI0.out) | refine below_set ?_ GE472.out) | exact HB.out), by repeat (first | (with_reducible first | exact HK.out | apply KeepBut.set_ | apply keep_drewN | apply keep_drew | apply keep_alloc | refine keep_far ?_ GW472.out _) | exact HK.out)⟩
      · replace c8 := Bool.eq_false_iff.mpr c8
        subst c8
        have H1 : (some ((⟨#[]⟩ : ByteArray), t475, t476, t477, t478)) = some (r1, r2, r3, r4, r5) := by first | (rw [if_neg (show ¬ (false = true) by decide)] at H; exact H) | rfl
        clear H
        have H := H1
        clear H1
        simp only [Option.some.injEq, Prod.mk.injEq] at H
        obtain ⟨rfl, rfl, rfl, rfl, rfl⟩ := H
        go_enter Try.func43, Try.ntmps43
        try go_wp2_with (first | ((with_reducible refine gate_callee (f := 133) rfl ?_); refine goesL_ (some 6) rfl rfl Try.func133 (by kernel_rfl) rfl #[.pointer (some ⟨g, 0, none⟩)] rfl (by (try simp only [List.map_toArray, List.map_cons, List.map_nil]); first | done | rfl | (simp only [List.length_drop, List.length_take]; rfl)) ?_; (with_reducible refine (strict_Reader_goes.calls g s0_0 s0_1 s0_2 s0_3 true s0_0 s0_1 s0_2 s0_3 w0 _ ?side1 ?side2 A2.out).mono ?_); (case side1 => repeat (first | (with_reducible first | exact HI0.out | apply IsS56.alloc | apply IsS56.drewN | apply IsS56.drew | apply IsS56.set_0 | apply IsS56.set_1 | apply IsS56.set_2 | apply IsS56.set_3 | apply IsS56.sete_2 | with_unfolding_all rfl) | exact HI0.out)); (case side2 => repeat (first | (with_reducible first | exact HB.out | apply below_alloc | apply pw_below_drewN | apply below_drew1 | refine below_set ?_ (IsS56.ge HI0.out)) | exact HB.out)); rintro e w22 ⟨rfl, hi, hb, hk⟩; refine ⟨_, rfl, ?_⟩; have n0_ := Aside0.mk (KeepBut.trans (by repeat (first | (with_reducible first | exact HK.out | apply KeepBut.set_ | apply keep_drewN | apply keep_drew | apply keep_alloc) | exact HK.out)) hk (.inl rfl)); have n1_ := Aside0.mk (hb); have n2_ := Aside0.mk (hi); clear HK; clear HB; clear HI0; have HK := n0_; have HB := n1_; have HI0 := n2_; clear n0_ n1_ n2_; (try clear hb); (try clear hb2); (try clear hk); (try clear hi); (try simp only [errW_none, errW_some]); have BKp0 : Aside0 (w22.heap[g]? = some (.cells #[.string s0_0, .int .i64 s0_1, errW s0_2, .bool s0_3] 56 (0, 0))) := ⟨by obtain ⟨hb_, _⟩ := HI0.out; exact hb_⟩))
        have n0_ := Aside0.mk (blk_drew BKp0.out)
        have n1_ := Aside0.mk (IsS56.drew HI0.out)
        have n2_ := Aside0.mk (keep_drew HK.out)
        have n3_ := Aside0.mk (below_drew1 HB.out)
        clear BKp0
        clear HI0
        clear HK
        clear HB
        have BKp0 := n0_
        have HI0 := n1_
        have HK := n2_
        have HB := n3_
        clear n0_ n1_ n2_ n3_
        refine start_ (n := 15) (S := fun w' => w'.cell? ⟨g, 0, none⟩ = some (.string s0_0) ∧ w'.cell? ⟨g, 1, none⟩ = some (.int .i64 s0_1) ∧ w'.cell? ⟨g, 2, none⟩ = some (errW s0_2) ∧ w'.cell? ⟨g, 3, none⟩ = some (.bool s0_3)) (ds := []) #[false, false, false, false, false, false, false, false, false, false, false, false, false, false, false] (by kernel_rfl) rfl rfl ⟨(blk_cell BKp0.out 0).trans rfl, (blk_cell BKp0.out 1).trans rfl, (blk_cell BKp0.out 2).trans rfl, (blk_cell BKp0.out 3).trans rfl⟩ (fun hHeld => ?_); refine with_tabW strict_Reader_Serial.tab3 strict_Reader_Serial.bits3 (fun HT_ HW_ => ?_)
        generalize w22.drew = w23 at BKp0 HI0 HK HB hHeld ⊢
        refine pure_ (i := 0) (N := some 9) (v := ?_) (a' := ?_) #[true, false, false, false, false, false, false, false, false, false, false, false, false, false, false] rfl rfl (any_of HT_.out (by kernel_rfl)) (fun _ _ _ h => h) (Or.inl ⟨by rfl, ?_⟩) ?_ ?_
        rotate_left
        · intro w'
          go_simp
          with_reducible rfl
        rotate_left
        · simp only [Act.put, List.setIfInBounds_toArray, List.set_cons_zero, List.set_cons_succ, i64_w, i32_w]
          rfl
        refine pure_ (i := 1) (N := some 10) (v := ?_) (a' := ?_) #[true, true, false, false, false, false, false, false, false, false, false, false, false, false, false] rfl rfl (any_of HT_.out (by kernel_rfl)) (fun _ _ _ h => h) (Or.inl ⟨by rfl, ?_⟩) ?_ ?_
        rotate_left
        · intro w'
          go_simp
          with_reducible rfl
        rotate_left
        · simp only [Act.put, List.setIfInBounds_toArray, List.set_cons_zero, List.set_cons_succ, i64_w, i32_w]
          rfl
        refine pure_ (i := 2) (N := some 11) (v := ?_) (a' := ?_) #[true, true, true, false, false, false, false, false, false, false, false, false, false, false, false] rfl rfl (any_of HT_.out (by kernel_rfl)) (fun _ _ _ h => h) (Or.inl ⟨by rfl, ?_⟩) ?_ ?_
        rotate_left
        · intro w'
          go_simp
          with_reducible rfl
        rotate_left
        · simp only [Act.put, List.setIfInBounds_toArray, List.set_cons_zero, List.set_cons_succ, i64_w, i32_w]
          rfl
        refine pure_ (i := 4) (N := some 13) (v := ?_) (a' := ?_) #[true, true, true, false, true, false, false, false, false, false, false, false, false, false, false] rfl rfl (any_of HT_.out (by kernel_rfl)) (fun _ _ _ h => h) (Or.inl ⟨by rfl, ?_⟩) ?_ ?_
        rotate_left
        · intro w'
          go_simp
          with_reducible rfl
        rotate_left
        · simp only [Act.put, List.setIfInBounds_toArray, List.set_cons_zero, List.set_cons_succ, i64_w, i32_w]
          rfl
        refine pure_ (i := 5) (N := some 14) (v := ?_) (a' := ?_) #[true, true, true, false, true, true, false, false, false, false, false, false, false, false, false] rfl rfl (any_of HT_.out (by kernel_rfl)) (fun _ _ _ h => h) (Or.inl ⟨by rfl, ?_⟩) ?_ ?_
        rotate_left
        · intro w'
          go_simp
          with_reducible rfl
        rotate_left
        · simp only [Act.put, List.setIfInBounds_toArray, List.set_cons_zero, List.set_cons_succ, i64_w, i32_w]
          rfl
        refine pure_ (i := 6) (N := some 15) (v := ?_) (a' := ?_) #[true, true, true, false, true, true, true, false, false, false, false, false, false, false, false] rfl rfl (any_of HT_.out (by kernel_rfl)) (fun _ _ _ h => h) (Or.inl ⟨by rfl, ?_⟩) ?_ ?_
        rotate_left
        · intro w'
          go_simp
          with_reducible rfl
        rotate_left
        · simp only [Act.put, List.setIfInBounds_toArray, List.set_cons_zero, List.set_cons_succ, i64_w, i32_w]
          rfl
        refine take_ (i := 3) (N := some 12) (v := ?_) (a' := ?_) #[true, true, true, true, true, true, true, false, false, false, false, false, false, false, false] rfl rfl (take_ofW HT_.out HW_.out (by kernel_rfl)) (fun _ _ _ h => h) (Or.inl ⟨by rfl, ?_⟩) hHeld ?_ ?_
        rotate_left
        · rintro w' ⟨s0, s1, s2, s3⟩
          go_simp
          with_reducible rfl
        rotate_left
        · simp only [Act.put, List.setIfInBounds_toArray, List.set_cons_zero, List.set_cons_succ, i64_w, i32_w]
          rfl
        refine take_ (i := 7) (N := some 16) (v := ?_) (a' := ?_) #[true, true, true, true, true, true, true, true, false, false, false, false, false, false, false] rfl rfl (take_ofW HT_.out HW_.out (by kernel_rfl)) (fun _ _ _ h => h) (Or.inl ⟨by rfl, ?_⟩) hHeld ?_ ?_
        rotate_left
        · rintro w' ⟨s0, s1, s2, s3⟩
          go_simp
          with_reducible rfl
        rotate_left
        · simp only [Act.put, List.setIfInBounds_toArray, List.set_cons_zero, List.set_cons_succ, i64_w, i32_w]
          rfl
        refine join_ (σ := Nat) 2 #[true, true, true, true, true, true, true, true, true, true, true, true, true, false, false] (fun s_ => [(17, .tuple #[.agg #[.string t469, .int .i64 t470], .int .i64 t471]), (3, .pointer (some ⟨s_, 0, none⟩)), (8, .tuple #[.agg #[.string t469, .int .i64 t470], .int .i64 t471]), (18, .agg #[.string t469, .int .i64 t470]), (19, .int .i64 t471)]) (fun s_ w' => (w'.cell? ⟨g, 0, none⟩ = some (.string s0_0) ∧ w'.cell? ⟨g, 1, none⟩ = some (.int .i64 s0_1) ∧ w'.cell? ⟨g, 2, none⟩ = some (errW s0_2) ∧ w'.cell? ⟨g, 3, none⟩ = some (.bool s0_3)) ∧ (w'.heap[s_]? = some (.cells #[.string (⟨#[]⟩ : ByteArray), .int .i64 0] 207 (0, 0))) ∧ (w'.heap[g]? = some (.cells #[.string s0_0, .int .i64 s0_1, errW s0_2, .bool s0_3] 56 (0, 0))) ∧ (w.heap.size ≤ s_) ∧ (w0.heap.size ≤ s_) ∧ (g ≠ s_) ∧ (s_ ≠ g) ∧ (IsS56 w0 w' g s0_0 s0_1 s0_2 s0_3) ∧ (KeepBut w w' g none) ∧ (Below w0.heap.size w0 w')) ?_ ?_
        rotate_left
        · intro hCont
          refine two_ (i := 8) (j := 12) (Ni := some 17) (Nj := some 3) #[true, true, true, true, true, true, true, true, true, false, false, false, false, false, false] #[true, true, true, true, true, true, true, true, false, false, false, false, true, false, false] rfl rfl rfl rfl (two_of HT_.out (by kernel_rfl)) (by decide) (by decide) (fun K hK => ?_) (fun K hK => ?_)
          · skip
            refine goes_ Try.func136 (by kernel_rfl) rfl #[.string s0_0, .int .i64 s0_1, .int .i64 16] (by rfl) rfl rfl (by (try simp only [List.map_toArray, List.map_cons, List.map_nil]); first | done | rfl | (simp only [List.length_drop, List.length_take]; rfl)) ?_
            with_reducible refine (octet_Take.calls k s0_0 s0_1 16 t469 t470 t471 _ A4.out).mono ?_
            rintro e w24 ⟨rfl, hb⟩
            refine ⟨_, rfl, ?_⟩
            have n0_ := Aside0.mk (IsS56.below (by repeat (first | (with_reducible first | exact HI0.out | apply IsS56.alloc | apply IsS56.drewN | apply IsS56.drew | apply IsS56.set_0 | apply IsS56.set_1 | apply IsS56.set_2 | apply IsS56.set_3 | apply IsS56.sete_2 | with_unfolding_all rfl | refine IsS56.far ?_ NB0_0.out _) | exact HI0.out)) hb)
            have n1_ := Aside0.mk (blk_below (g := g) (o := .cells #[.string s0_0, .int .i64 s0_1, errW s0_2, .bool s0_3] 56 (0, 0)) (by (with_reducible repeat (first | refine blk_drewN ?_ _ | refine blk_drew ?_ | refine blk_alloc ?_ _)); exact BKp0.out) hb)
            have n2_ := Aside0.mk (KeepBut.trans (by repeat (first | (with_reducible first | exact HK.out | apply KeepBut.set_ | apply keep_drewN | apply keep_drew | apply keep_alloc | refine keep_far ?_ GW0.out _) | exact HK.out)) (KeepBut.of_below hb g none) (.inl rfl))
            have n3_ := Aside0.mk (below_step (by repeat (first | (with_reducible first | exact HB.out | apply below_alloc | apply pw_below_drewN | apply below_drew1 | refine below_set ?_ (IsS56.ge HI0.out) | refine below_set ?_ GE0.out) | exact HB.out)) hb)
            clear HI0
            clear BKp0
            clear HK
            clear HB
            have HI0 := n0_
            have BKp0 := n1_
            have HK := n2_
            have HB := n3_
            clear n0_ n1_ n2_ n3_
            (try clear hb)
            (try clear hb2)
            (try clear hk)
            (try clear hi)
            refine hK.out _ _ ⟨(blk_cell BKp0.out 0).trans rfl, (blk_cell BKp0.out 1).trans rfl, (blk_cell BKp0.out 2).trans rfl, (blk_cell BKp0.out 3).trans rfl⟩ (fun hHeld => ?_)
            clear hK K
            refine norm_ (a' := ?_) ?_ ?_
            rotate_left
            · show Act.put _ (some 17) _ = _
              simp only [Act.put, List.setIfInBounds_toArray, List.set_cons_zero, List.set_cons_succ, i64_w, i32_w]
              rfl
            refine pure_ (i := 9) (N := some 8) (v := ?_) (a' := ?_) #[true, true, true, true, true, true, true, true, true, true, false, false, false, false, false] rfl rfl (any_of HT_.out (by kernel_rfl)) (fun _ _ _ h => h) (Or.inl ⟨by rfl, ?_⟩) ?_ ?_
            rotate_left
            · intro w'
              go_simp
              with_reducible rfl
            rotate_left
            · simp only [Act.put, List.setIfInBounds_toArray, List.set_cons_zero, List.set_cons_succ, i64_w, i32_w]
              rfl
            refine pure_ (i := 10) (N := some 18) (v := ?_) (a' := ?_) #[true, true, true, true, true, true, true, true, true, true, true, false, false, false, false] rfl rfl (any_of HT_.out (by kernel_rfl)) (fun _ _ _ h => h) (Or.inl ⟨by rfl, ?_⟩) ?_ ?_
            rotate_left
            · intro w'
              go_simp
              with_reducible rfl
            rotate_left
            · simp only [Act.put, List.setIfInBounds_toArray, List.set_cons_zero, List.set_cons_succ, i64_w, i32_w]
              rfl
            refine pure_ (i := 11) (N := some 19) (v := ?_) (a' := ?_) #[true, true, true, true, true, true, true, true, true, true, true, true, false, false, false] rfl rfl (any_of HT_.out (by kernel_rfl)) (fun _ _ _ h => h) (Or.inl ⟨by rfl, ?_⟩) ?_ ?_
            rotate_left
            · intro w'
              go_simp
              with_reducible rfl
            rotate_left
            · simp only [Act.put, List.setIfInBounds_toArray, List.set_cons_zero, List.set_cons_succ, i64_w, i32_w]
              rfl
            refine one_ (i := 12) (N := some 3) #[true, true, true, true, true, true, true, true, true, true, true, true, true, false, false] rfl rfl (one_of HT_.out (by kernel_rfl)) (by decide) (fun K hK => ?_)
            refine box_step ?hg (N := 3) ?hd (cs := #[.string (⟨#[]⟩ : ByteArray), .int .i64 0]) (t := 207) ?hr ?_; (case hd => rfl); (case hg => rfl); (case hr => first | (go_simp; done) | (go_simp; rfl))
            intro gb472 hg w25 hbox hb
            have n0_ := Aside0.mk (IsS56.below (by repeat (first | (with_reducible first | exact HI0.out | apply IsS56.alloc | apply IsS56.drewN | apply IsS56.drew | apply IsS56.set_0 | apply IsS56.set_1 | apply IsS56.set_2 | apply IsS56.set_3 | apply IsS56.sete_2 | with_unfolding_all rfl | refine IsS56.far ?_ NB0_0.out _) | exact HI0.out)) hb)
            have n1_ := Aside0.mk (blk_below (g := g) (o := .cells #[.string s0_0, .int .i64 s0_1, errW s0_2, .bool s0_3] 56 (0, 0)) (by (with_reducible repeat (first | refine blk_drewN ?_ _ | refine blk_drew ?_ | refine blk_alloc ?_ _)); exact BKp0.out) hb)
            have n2_ := Aside0.mk (KeepBut.trans (by repeat (first | (with_reducible first | exact HK.out | apply KeepBut.set_ | apply keep_drewN | apply keep_drew | apply keep_alloc | refine keep_far ?_ GW0.out _) | exact HK.out)) (KeepBut.of_below hb g none) (.inl rfl))
            have n3_ := Aside0.mk (below_step (by repeat (first | (with_reducible first | exact HB.out | apply below_alloc | apply pw_below_drewN | apply below_drew1 | refine below_set ?_ (IsS56.ge HI0.out) | refine below_set ?_ GE0.out) | exact HB.out)) hb)
            have n4_ := Aside0.mk (hbox)
            have n5_ := Aside0.mk ((by rw [hg]; exact (keep_size (w := w) (g := g) (row := none) (by repeat (first | (with_reducible first | exact HK.out | apply KeepBut.set_ | apply keep_drewN | apply keep_drew | apply keep_alloc | refine keep_far ?_ GW0.out _) | exact HK.out))) : w.heap.size ≤ gb472))
            have n6_ := Aside0.mk ((Nat.le_trans HW0.out (by rw [hg]; exact (keep_size (w := w) (g := g) (row := none) (by repeat (first | (with_reducible first | exact HK.out | apply KeepBut.set_ | apply keep_drewN | apply keep_drew | apply keep_alloc | refine keep_far ?_ GW0.out _) | exact HK.out))) : w.heap.size ≤ gb472) : w0.heap.size ≤ gb472))
            have n7_ := Aside0.mk ((by rw [hg]; exact Nat.ne_of_lt (blk_lt (g := g) (o := .cells #[.string s0_0, .int .i64 s0_1, errW s0_2, .bool s0_3] 56 (0, 0)) (by (with_reducible repeat (first | refine blk_drewN ?_ _ | refine blk_drew ?_ | refine blk_alloc ?_ _)); exact BKp0.out)) : g ≠ gb472))
            have n8_ := Aside0.mk ((by rw [hg]; exact Nat.ne_of_gt (blk_lt (g := g) (o := .cells #[.string s0_0, .int .i64 s0_1, errW s0_2, .bool s0_3] 56 (0, 0)) (by (with_reducible repeat (first | refine blk_drewN ?_ _ | refine blk_drew ?_ | refine blk_alloc ?_ _)); exact BKp0.out)) : gb472 ≠ g))
            have n9_ := Aside0.mk ((by rw [hg]; exact Nat.ne_of_lt (IsS56.lt (show IsS56 w0 _ g s0_0 s0_1 s0_2 s0_3 from by repeat (first | (with_reducible first | exact HI0.out | apply IsS56.alloc | apply IsS56.drewN | apply IsS56.drew | apply IsS56.set_0 | apply IsS56.set_1 | apply IsS56.set_2 | apply IsS56.set_3 | apply IsS56.sete_2 | with_unfolding_all rfl | refine IsS56.far ?_ NB0_0.out _) | exact HI0.out))) : g ≠ gb472))
            have n10_ := Aside0.mk ((by rw [hg]; exact Nat.ne_of_gt (IsS56.lt (show IsS56 w0 _ g s0_0 s0_1 s0_2 s0_3 from by repeat (first | (with_reducible first | exact HI0.out | apply IsS56.alloc | apply IsS56.drewN | apply IsS56.drew | apply IsS56.set_0 | apply IsS56.set_1 | apply IsS56.set_2 | apply IsS56.set_3 | apply IsS56.sete_2 | with_unfolding_all rfl | refine IsS56.far ?_ NB0_0.out _) | exact HI0.out))) : gb472 ≠ g))
            clear HI0
            clear BKp0
            clear HK
            clear HB
            have HI0 := n0_
            have BKp0 := n1_
            have HK := n2_
            have HB := n3_
            have BK472 := n4_
            have GW472 := n5_
            have GE472 := n6_
            have NB0_472 := n7_
            have NB472_0 := n8_
            have NB0_472 := n9_
            have NB472_0 := n10_
            clear n0_ n1_ n2_ n3_ n4_ n5_ n6_ n7_ n8_ n9_ n10_
            clear hb hbox hg
            refine hK.out _ _ ⟨(blk_cell BKp0.out 0).trans rfl, (blk_cell BKp0.out 1).trans rfl, (blk_cell BKp0.out 2).trans rfl, (blk_cell BKp0.out 3).trans rfl⟩ (fun hHeld => ?_)
            clear hK K
            refine norm_ (a' := ?_) ?_ ?_
            rotate_left
            · show Act.put _ (some 3) _ = _
              simp only [Act.put, List.setIfInBounds_toArray, List.set_cons_zero, List.set_cons_succ, i64_w, i32_w]
              rfl
            exact norm_ (by simp only [putAll, Act.put, List.setIfInBounds_toArray, List.set_cons_zero, List.set_cons_succ]) (hCont (gb472) _ ⟨hHeld, (by (with_reducible repeat (first | refine blk_drewN ?_ _ | refine blk_drew ?_ | refine blk_alloc ?_ _)); exact BK472.out), (by (with_reducible repeat (first | refine blk_drewN ?_ _ | refine blk_drew ?_ | refine blk_alloc ?_ _)); exact BKp0.out), GW472.out, GE472.out, NB0_472.out, NB472_0.out, (by repeat (first | (with_reducible first | exact HI0.out | apply IsS56.alloc | apply IsS56.drewN | apply IsS56.drew | apply IsS56.set_0 | apply IsS56.set_1 | apply IsS56.set_2 | apply IsS56.set_3 | apply IsS56.sete_2 | with_unfolding_all rfl | refine IsS56.far ?_ NB0_0.out _ | refine IsS56.far ?_ NB0_472.out _) | exact HI0.out)), (by repeat (first | (with_reducible first | exact HK.out | apply KeepBut.set_ | apply keep_drewN | apply keep_drew | apply keep_alloc | refine keep_far ?_ GW0.out _ | refine keep_far ?_ GW472.out _) | exact HK.out)), (by repeat (first | (with_reducible first | exact HB.out | apply below_alloc | apply pw_below_drewN | apply below_drew1 | refine below_set ?_ (IsS56.ge HI0.out) | refine below_set ?_ GE0.out | refine below_set ?_ GE472.out) | exact HB.out))⟩)
          · skip
            refine box_step ?hg (N := 3) ?hd (cs := #[.string (⟨#[]⟩ : ByteArray), .int .i64 0]) (t := 207) ?hr ?_; (case hd => rfl); (case hg => rfl); (case hr => first | (go_simp; done) | (go_simp; rfl))
            intro gb472 hg w24 hbox hb
            have n0_ := Aside0.mk (IsS56.below (by repeat (first | (with_reducible first | exact HI0.out | apply IsS56.alloc | apply IsS56.drewN | apply IsS56.drew | apply IsS56.set_0 | apply IsS56.set_1 | apply IsS56.set_2 | apply IsS56.set_3 | apply IsS56.sete_2 | with_unfolding_all rfl | refine IsS56.far ?_ NB0_0.out _) | exact HI0.out)) hb)
            have n1_ := Aside0.mk (blk_below (g := g) (o := .cells #[.string s0_0, .int .i64 s0_1, errW s0_2, .bool s0_3] 56 (0, 0)) (by (with_reducible repeat (first | refine blk_drewN ?_ _ | refine blk_drew ?_ | refine blk_alloc ?_ _)); exact BKp0.out) hb)
            have n2_ := Aside0.mk (KeepBut.trans (by repeat (first | (with_reducible first | exact HK.out | apply KeepBut.set_ | apply keep_drewN | apply keep_drew | apply keep_alloc | refine keep_far ?_ GW0.out _) | exact HK.out)) (KeepBut.of_below hb g none) (.inl rfl))
            have n3_ := Aside0.mk (below_step (by repeat (first | (with_reducible first | exact HB.out | apply below_alloc | apply pw_below_drewN | apply below_drew1 | refine below_set ?_ (IsS56.ge HI0.out) | refine below_set ?_ GE0.out) | exact HB.out)) hb)
            have n4_ := Aside0.mk (hbox)
            have n5_ := Aside0.mk ((by rw [hg]; exact (keep_size (w := w) (g := g) (row := none) (by repeat (first | (with_reducible first | exact HK.out | apply KeepBut.set_ | apply keep_drewN | apply keep_drew | apply keep_alloc | refine keep_far ?_ GW0.out _) | exact HK.out))) : w.heap.size ≤ gb472))
            have n6_ := Aside0.mk ((Nat.le_trans HW0.out (by rw [hg]; exact (keep_size (w := w) (g := g) (row := none) (by repeat (first | (with_reducible first | exact HK.out | apply KeepBut.set_ | apply keep_drewN | apply keep_drew | apply keep_alloc | refine keep_far ?_ GW0.out _) | exact HK.out))) : w.heap.size ≤ gb472) : w0.heap.size ≤ gb472))
            have n7_ := Aside0.mk ((by rw [hg]; exact Nat.ne_of_lt (blk_lt (g := g) (o := .cells #[.string s0_0, .int .i64 s0_1, errW s0_2, .bool s0_3] 56 (0, 0)) (by (with_reducible repeat (first | refine blk_drewN ?_ _ | refine blk_drew ?_ | refine blk_alloc ?_ _)); exact BKp0.out)) : g ≠ gb472))
            have n8_ := Aside0.mk ((by rw [hg]; exact Nat.ne_of_gt (blk_lt (g := g) (o := .cells #[.string s0_0, .int .i64 s0_1, errW s0_2, .bool s0_3] 56 (0, 0)) (by (with_reducible repeat (first | refine blk_drewN ?_ _ | refine blk_drew ?_ | refine blk_alloc ?_ _)); exact BKp0.out)) : gb472 ≠ g))
            have n9_ := Aside0.mk ((by rw [hg]; exact Nat.ne_of_lt (IsS56.lt (show IsS56 w0 _ g s0_0 s0_1 s0_2 s0_3 from by repeat (first | (with_reducible first | exact HI0.out | apply IsS56.alloc | apply IsS56.drewN | apply IsS56.drew | apply IsS56.set_0 | apply IsS56.set_1 | apply IsS56.set_2 | apply IsS56.set_3 | apply IsS56.sete_2 | with_unfolding_all rfl | refine IsS56.far ?_ NB0_0.out _) | exact HI0.out))) : g ≠ gb472))
            have n10_ := Aside0.mk ((by rw [hg]; exact Nat.ne_of_gt (IsS56.lt (show IsS56 w0 _ g s0_0 s0_1 s0_2 s0_3 from by repeat (first | (with_reducible first | exact HI0.out | apply IsS56.alloc | apply IsS56.drewN | apply IsS56.drew | apply IsS56.set_0 | apply IsS56.set_1 | apply IsS56.set_2 | apply IsS56.set_3 | apply IsS56.sete_2 | with_unfolding_all rfl | refine IsS56.far ?_ NB0_0.out _) | exact HI0.out))) : gb472 ≠ g))
            clear HI0
            clear BKp0
            clear HK
            clear HB
            have HI0 := n0_
            have BKp0 := n1_
            have HK := n2_
            have HB := n3_
            have BK472 := n4_
            have GW472 := n5_
            have GE472 := n6_
            have NB0_472 := n7_
            have NB472_0 := n8_
            have NB0_472 := n9_
            have NB472_0 := n10_
            clear n0_ n1_ n2_ n3_ n4_ n5_ n6_ n7_ n8_ n9_ n10_
            clear hb hbox hg
            refine hK.out _ _ ⟨(blk_cell BKp0.out 0).trans rfl, (blk_cell BKp0.out 1).trans rfl, (blk_cell BKp0.out 2).trans rfl, (blk_cell BKp0.out 3).trans rfl⟩ (fun hHeld => ?_)
            clear hK K
            refine norm_ (a' := ?_) ?_ ?_
            rotate_left
            · show Act.put _ (some 3) _ = _
              simp only [Act.put, List.setIfInBounds_toArray, List.set_cons_zero, List.set_cons_succ, i64_w, i32_w]
              rfl
            refine one_ (i := 8) (N := some 17) #[true, true, true, true, true, true, true, true, true, false, false, false, true, false, false] rfl rfl (one_of HT_.out (by kernel_rfl)) (by decide) (fun K hK => ?_)
            refine goes_ Try.func136 (by kernel_rfl) rfl #[.string s0_0, .int .i64 s0_1, .int .i64 16] (by rfl) rfl rfl (by (try simp only [List.map_toArray, List.map_cons, List.map_nil]); first | done | rfl | (simp only [List.length_drop, List.length_take]; rfl)) ?_
            with_reducible refine (octet_Take.calls k s0_0 s0_1 16 t469 t470 t471 _ A4.out).mono ?_
            rintro e w25 ⟨rfl, hb⟩
            refine ⟨_, rfl, ?_⟩
            have n0_ := Aside0.mk (IsS56.below (by repeat (first | (with_reducible first | exact HI0.out | apply IsS56.alloc | apply IsS56.drewN | apply IsS56.drew | apply IsS56.set_0 | apply IsS56.set_1 | apply IsS56.set_2 | apply IsS56.set_3 | apply IsS56.sete_2 | with_unfolding_all rfl | refine IsS56.far ?_ NB0_0.out _ | refine IsS56.far ?_ NB0_472.out _) | exact HI0.out)) hb)
            have n1_ := Aside0.mk (blk_below (g := g) (o := .cells #[.string s0_0, .int .i64 s0_1, errW s0_2, .bool s0_3] 56 (0, 0)) (by (with_reducible repeat (first | refine blk_drewN ?_ _ | refine blk_drew ?_ | refine blk_alloc ?_ _)); exact BKp0.out) hb)
            have n2_ := Aside0.mk (blk_below (g := gb472) (o := .cells #[.string (⟨#[]⟩ : ByteArray), .int .i64 0] 207 (0, 0)) (by (with_reducible repeat (first | refine blk_drewN ?_ _ | refine blk_drew ?_ | refine blk_alloc ?_ _)); exact BK472.out) hb)
            have n3_ := Aside0.mk (KeepBut.trans (by repeat (first | (with_reducible first | exact HK.out | apply KeepBut.set_ | apply keep_drewN | apply keep_drew | apply keep_alloc | refine keep_far ?_ GW0.out _ | refine keep_far ?_ GW472.out _) | exact HK.out)) (KeepBut.of_below hb g none) (.inl rfl))
            have n4_ := Aside0.mk (below_step (by repeat (first | (with_reducible first | exact HB.out | apply below_alloc | apply pw_below_drewN | apply below_drew1 | refine below_set ?_ (IsS56.ge HI0.out) | refine below_set ?_ GE0.out | refine below_set ?_ GE472.out) | exact HB.out)) hb)
            clear HI0
            clear BKp0
            clear BK472
            clear HK
            clear HB
            have HI0 := n0_
            have BKp0 := n1_
            have BK472 := n2_
            have HK := n3_
            have HB := n4_
            clear n0_ n1_ n2_ n3_ n4_
            (try clear hb)
            (try clear hb2)
            (try clear hk)
            (try clear hi)
            refine hK.out _ _ ⟨(blk_cell BKp0.out 0).trans rfl, (blk_cell BKp0.out 1).trans rfl, (blk_cell BKp0.out 2).trans rfl, (blk_cell BKp0.out 3).trans rfl⟩ (fun hHeld => ?_)
            clear hK K
            refine norm_ (a' := ?_) ?_ ?_
            rotate_left
            · show Act.put _ (some 17) _ = _
              simp only [Act.put, List.setIfInBounds_toArray, List.set_cons_zero, List.set_cons_succ, i64_w, i32_w]
              rfl
            refine pure_ (i := 9) (N := some 8) (v := ?_) (a' := ?_) #[true, true, true, true, true, true, true, true, true, true, false, false, true, false, false] rfl rfl (any_of HT_.out (by kernel_rfl)) (fun _ _ _ h => h) (Or.inl ⟨by rfl, ?_⟩) ?_ ?_
            rotate_left
            · intro w'
              go_simp
              with_reducible rfl
            rotate_left
            · simp only [Act.put, List.setIfInBounds_toArray, List.set_cons_zero, List.set_cons_succ, i64_w, i32_w]
              rfl
            refine pure_ (i := 10) (N := some 18) (v := ?_) (a' := ?_) #[true, true, true, true, true, true, true, true, true, true, true, false, true, false, false] rfl rfl (any_of HT_.out (by kernel_rfl)) (fun _ _ _ h => h) (Or.inl ⟨by rfl, ?_⟩) ?_ ?_
            rotate_left
            · intro w'
              go_simp
              with_reducible rfl
            rotate_left
            · simp only [Act.put, List.setIfInBounds_toArray, List.set_cons_zero, List.set_cons_succ, i64_w, i32_w]
              rfl
            refine pure_ (i := 11) (N := some 19) (v := ?_) (a' := ?_) #[true, true, true, true, true, true, true, true, true, true, true, true, true, false, false] rfl rfl (any_of HT_.out (by kernel_rfl)) (fun _ _ _ h => h) (Or.inl ⟨by rfl, ?_⟩) ?_ ?_
            rotate_left
            · intro w'
              go_simp
              with_reducible rfl
            rotate_left
            · simp only [Act.put, List.setIfInBounds_toArray, List.set_cons_zero, List.set_cons_succ, i64_w, i32_w]
              rfl
            exact norm_ (by simp only [putAll, Act.put, List.setIfInBounds_toArray, List.set_cons_zero, List.set_cons_succ]) (hCont (gb472) _ ⟨hHeld, (by (with_reducible repeat (first | refine blk_drewN ?_ _ | refine blk_drew ?_ | refine blk_alloc ?_ _)); exact BK472.out), (by (with_reducible repeat (first | refine blk_drewN ?_ _ | refine blk_drew ?_ | refine blk_alloc ?_ _)); exact BKp0.out), GW472.out, GE472.out, NB0_472.out, NB472_0.out, (by repeat (first | (with_reducible first | exact HI0.out | apply IsS56.alloc | apply IsS56.drewN | apply IsS56.drew | apply IsS56.set_0 | apply IsS56.set_1 | apply IsS56.set_2 | apply IsS56.set_3 | apply IsS56.sete_2 | with_unfolding_all rfl | refine IsS56.far ?_ NB0_0.out _ | refine IsS56.far ?_ NB0_472.out _) | exact HI0.out)), (by repeat (first | (with_reducible first | exact HK.out | apply KeepBut.set_ | apply keep_drewN | apply keep_drew | apply keep_alloc | refine keep_far ?_ GW0.out _ | refine keep_far ?_ GW472.out _) | exact HK.out)), (by repeat (first | (with_reducible first | exact HB.out | apply below_alloc | apply pw_below_drewN | apply below_drew1 | refine below_set ?_ (IsS56.ge HI0.out) | refine below_set ?_ GE0.out | refine below_set ?_ GE472.out) | exact HB.out))⟩)
        rintro gb472 w26 ⟨hS_, h0_, h1_, h2_, h3_, h4_, h5_, h6_, h7_, h8_⟩
        have n0_ : Aside0 (w26.heap[gb472]? = some (.cells #[.string (⟨#[]⟩ : ByteArray), .int .i64 0] 207 (0, 0))) := ⟨h0_⟩
        have n1_ : Aside0 (w26.heap[g]? = some (.cells #[.string s0_0, .int .i64 s0_1, errW s0_2, .bool s0_3] 56 (0, 0))) := ⟨h1_⟩
        have n2_ : Aside0 (w.heap.size ≤ gb472) := ⟨h2_⟩
        have n3_ : Aside0 (w0.heap.size ≤ gb472) := ⟨h3_⟩
        have n4_ : Aside0 (g ≠ gb472) := ⟨h4_⟩
        have n5_ : Aside0 (gb472 ≠ g) := ⟨h5_⟩
        have n6_ : Aside0 (IsS56 w0 w26 g s0_0 s0_1 s0_2 s0_3) := ⟨h6_⟩
        have n7_ : Aside0 (KeepBut w w26 g none) := ⟨h7_⟩
        have n8_ : Aside0 (Below w0.heap.size w0 w26) := ⟨h8_⟩
        clear BKp0
        clear HI0
        clear HK
        clear HB
        clear h0_ h1_ h2_ h3_ h4_ h5_ h6_ h7_ h8_
        have BK472 := n0_
        have BKp0 := n1_
        have GW472 := n2_
        have GE472 := n3_
        have NB0_472 := n4_
        have NB472_0 := n5_
        have HI0 := n6_
        have HK := n7_
        have HB := n8_
        clear n0_ n1_ n2_ n3_ n4_ n5_ n6_ n7_ n8_
        have hHeld : w26.cell? ⟨g, 0, none⟩ = some (.string s0_0) ∧ w26.cell? ⟨g, 1, none⟩ = some (.int .i64 s0_1) ∧ w26.cell? ⟨g, 2, none⟩ = some (errW s0_2) ∧ w26.cell? ⟨g, 3, none⟩ = some (.bool s0_3) := hS_
        refine norm_ (a' := ?_) ?_ ?_
        rotate_left
        · simp only [putAll, Act.put, List.setIfInBounds_toArray, List.set_cons_zero, List.set_cons_succ]
          rfl
        refine one_ (i := 13) (N := none) #[true, true, true, true, true, true, true, true, true, true, true, true, true, true, false] rfl rfl (one_of HT_.out (by kernel_rfl)) (by decide) (fun K hK => ?_)
        have hs27 : w26.cell? ⟨gb472, 0, none⟩ = some (.string (⟨#[]⟩ : ByteArray)) := (blk_cell BK472.out 0).trans rfl
        have hfs27 := blk_frozen BK472.out 0
        have hns27_0 := NB0_472.out
        have hms27_0 := NB472_0.out
        have hs28 : w26.cell? ⟨gb472, 1, none⟩ = some (.int .i64 0) := (blk_cell BK472.out 1).trans rfl
        have hfs28 := blk_frozen BK472.out 1
        have hns28_0 := NB0_472.out
        have hms28_0 := NB472_0.out
        refine skip_ (w1 := ?_) (by rfl) rfl ?_ ?_
        rotate_left
        · go_simp
          rfl
        refine hK.out _ _ ⟨((cell_far (p := ⟨gb472, _, none⟩) NB0_472.out _).trans (((cell_far (p := ⟨gb472, _, none⟩) NB0_472.out _).trans (hHeld.1)))), ((cell_far (p := ⟨gb472, _, none⟩) NB0_472.out _).trans (((cell_far (p := ⟨gb472, _, none⟩) NB0_472.out _).trans (hHeld.2.1)))), ((cell_far (p := ⟨gb472, _, none⟩) NB0_472.out _).trans (((cell_far (p := ⟨gb472, _, none⟩) NB0_472.out _).trans (hHeld.2.2.1)))), ((cell_far (p := ⟨gb472, _, none⟩) NB0_472.out _).trans (((cell_far (p := ⟨gb472, _, none⟩) NB0_472.out _).trans (hHeld.2.2.2))))⟩ (fun hHeld => ?_)
        clear hK K
        refine pure_ (i := 14) (N := some 4) (v := ?_) (a' := ?_) #[true, true, true, true, true, true, true, true, true, true, true, true, true, true, true] rfl rfl (any_of HT_.out (by kernel_rfl)) (fun _ _ _ h => h) (Or.inl ⟨by rfl, ?_⟩) ?_ ?_
        rotate_left
        · intro w'
          go_simp
          with_reducible rfl
        rotate_left
        · simp only [Act.put, List.setIfInBounds_toArray, List.set_cons_zero, List.set_cons_succ, i64_w, i32_w]
          rfl
        refine done_ (done_of HT_.out (by kernel_rfl)) ?_
        clear BKp0
        have hnb29 := NB472_0.out
        have hnc29 := NB0_472.out
        have hcz30_0 : w26.cell? ⟨gb472, 0, none⟩ = some (.string (⟨#[]⟩ : ByteArray)) := (blk_cell BK472.out 0).trans rfl
        have hcz30_1 : w26.cell? ⟨gb472, 1, none⟩ = some (.int .i64 0) := (blk_cell BK472.out 1).trans rfl
        have hfz30_0 := blk_frozen BK472.out 0
        have hfz30_1 := blk_frozen BK472.out 1
        try go_wp2_with (first | ((with_reducible refine gate_callee (f := 137) rfl ?_); refine goesL_ (some 24) rfl rfl Try.func137 (by kernel_rfl) rfl #[.string t469] rfl (by (try simp only [List.map_toArray, List.map_cons, List.map_nil]); first | done | rfl | (simp only [List.length_drop, List.length_take]; rfl)) ?_; (with_reducible refine (serial_Check.calls t469 t473 _ A6.out).mono ?_); rintro e w31 ⟨rfl, hb⟩; refine ⟨_, rfl, ?_⟩; have n0_ := Aside0.mk (IsS56.below (show IsS56 w0 ((w26.setCell ⟨gb472, 0, none⟩ (.string t469)).setCell ⟨gb472, 1, none⟩ (.int .i64 t470)) g s0_0 s0_1 s0_2 s0_3 from by repeat (first | (with_reducible first | exact HI0.out | apply IsS56.alloc | apply IsS56.drewN | apply IsS56.drew | apply IsS56.set_0 | apply IsS56.set_1 | apply IsS56.set_2 | apply IsS56.set_3 | apply IsS56.sete_2 | with_unfolding_all rfl | refine IsS56.far ?_ NB0_472.out _) | exact HI0.out)) hb); have n1_ := Aside0.mk (blk_below (g := gb472) (o := .cells #[.string t469, .int .i64 t470] 207 (0, 0)) (by (with_reducible repeat (first | refine blk_drewN ?_ _ | refine blk_drew ?_ | refine blk_alloc ?_ _)); refine blk_put (cs := #[.string t469, .int .i64 0]) ?_ 1 _ rfl; (with_reducible repeat (first | refine blk_drewN ?_ _ | refine blk_drew ?_ | refine blk_alloc ?_ _)); refine blk_put (cs := #[.string (⟨#[]⟩ : ByteArray), .int .i64 0]) ?_ 0 _ rfl; (with_reducible repeat (first | refine blk_drewN ?_ _ | refine blk_drew ?_ | refine blk_alloc ?_ _)); exact BK472.out) hb); have n2_ := Aside0.mk (KeepBut.trans (by repeat (first | (with_reducible first | exact HK.out | apply KeepBut.set_ | apply keep_drewN | apply keep_drew | apply keep_alloc | refine keep_far ?_ GW472.out _) | exact HK.out)) (KeepBut.of_below hb g none) (.inl rfl)); have n3_ := Aside0.mk (below_step (by repeat (first | (with_reducible first | exact HB.out | apply below_alloc | apply pw_below_drewN | apply below_drew1 | refine below_set ?_ (IsS56.ge HI0.out) | refine below_set ?_ GE472.out) | exact HB.out)) hb); clear HI0; clear BK472; clear HK; clear HB; have HI0 := n0_; have BK472 := n1_; have HK := n2_; have HB := n3_; clear n0_ n1_ n2_ n3_; (try clear hb); (try clear hb2); (try clear hk); (try clear hi); have hcz32_0 : w31.cell? ⟨gb472, 0, none⟩ = some (.string t469) := (blk_cell BK472.out 0).trans rfl; have hcz32_1 : w31.cell? ⟨gb472, 1, none⟩ = some (.int .i64 t470) := (blk_cell BK472.out 1).trans rfl; have hfz32_0 := blk_frozen BK472.out 0; have hfz32_1 := blk_frozen BK472.out 1) | ((with_reducible refine gate_callee (f := 135) rfl ?_); refine goesL_ (some 29) rfl rfl Try.func135 (by kernel_rfl) rfl #[.pointer (some ⟨g, 0, none⟩), .int .i64 t470, .int .i64 t473] rfl (by (try simp only [List.map_toArray, List.map_cons, List.map_nil]); first | done | rfl | (simp only [List.length_drop, List.length_take]; rfl)) ?_; (with_reducible refine (strict_Reader_done.calls g s0_0 s0_1 s0_2 s0_3 t470 t473 false t475 t476 t477 t478 w0 _ ?side1 ?side2 A7.out).mono ?_); (case side1 => repeat (first | (with_reducible first | exact HI0.out | apply IsS56.alloc | apply IsS56.drewN | apply IsS56.drew | apply IsS56.set_0 | apply IsS56.set_1 | apply IsS56.set_2 | apply IsS56.set_3 | apply IsS56.sete_2 | with_unfolding_all rfl | refine IsS56.far ?_ NB0_472.out _) | exact HI0.out)); (case side2 => repeat (first | (with_reducible first | exact HB.out | apply below_alloc | apply pw_below_drewN | apply below_drew1 | refine below_set ?_ (IsS56.ge HI0.out) | refine below_set ?_ GE472.out) | exact HB.out)); rintro e w33 ⟨rfl, hi, hb, hk⟩; refine ⟨_, rfl, ?_⟩; have n0_ := Aside0.mk (KeepBut.blk hk (g' := gb472) (o := .cells #[.string t469, .int .i64 t470] 207 (0, 0)) (by (with_reducible repeat (first | refine blk_drewN ?_ _ | refine blk_drew ?_ | refine blk_alloc ?_ _)); exact BK472.out) NB472_0.out (by simp)); have n1_ := Aside0.mk (KeepBut.trans (by repeat (first | (with_reducible first | exact HK.out | apply KeepBut.set_ | apply keep_drewN | apply keep_drew | apply keep_alloc | refine keep_far ?_ GW472.out _) | exact HK.out)) hk (.inl rfl)); have n2_ := Aside0.mk (hb); have n3_ := Aside0.mk (hi); clear BK472; clear HK; clear HB; clear HI0; have BK472 := n0_; have HK := n1_; have HB := n2_; have HI0 := n3_; clear n0_ n1_ n2_ n3_; (try clear hb); (try clear hb2); (try clear hk); (try clear hi); (try simp only [errW_none, errW_some])))
        go_ret
        exact ⟨by first | rfl | (simp [errW_none, errW_some] <;> rfl) | (simp [*, errW_none, errW_some] <;> rfl), by repeat (first | (with_reducible first | exact HI0.out | apply IsS56.alloc | apply IsS56.drewN | apply IsS56.drew | apply IsS56.set_0 | apply IsS56.set_1 | apply IsS56.set_2 | apply IsS56.set_3 | apply IsS56.sete_2 | with_unfolding_all rfl | refine IsS56.far ?_ NB0_472.out _) | exact HI0.out), by repeat (first | (with_reducible first | exact HB.out | apply below_alloc | apply pw_below_drewN | apply below_drew1 | refine below_set ?_ (IsS56.ge HI0.out) | refine below_set ?_ GE472.out) | exact HB.out), by repeat (first | (with_reducible first | exact HK.out | apply KeepBut.set_ | apply keep_drewN | apply keep_drew | apply keep_alloc | refine keep_far ?_ GW472.out _) | exact HK.out)⟩
    · rw [if_neg c5] at H
      have c5b0 : (t471 == 0) = false := beq_eq_false_iff_ne.mpr c5
      have c5b1 : (t471 != 0) = true := bne_iff_ne.mpr c5
      replace H := Option.bind_eq_some_iff.mp H
      obtain ⟨⟨t479, t480, t481, t482, t483⟩, A340, H⟩ := H
      replace H : (if t479 = true then (some (t469, t480, t481, t482, t483)) else (some ((⟨#[]⟩ : ByteArray), t480, t481, t482, t483))) = some (r1, r2, r3, r4, r5) := H
      have A34 := Aside0.mk A340
      clear A340
      by_cases c35 : t479 = true
      · subst c35
        have H1 : (some (t469, t480, t481, t482, t483)) = some (r1, r2, r3, r4, r5) := by first | (rw [if_pos rfl] at H; exact H) | rfl
        clear H
        have H := H1
        clear H1
        simp only [Option.some.injEq, Prod.mk.injEq] at H
        obtain ⟨rfl, rfl, rfl, rfl, rfl⟩ := H
        go_enter Try.func43, Try.ntmps43
        try go_wp2_with (first | ((with_reducible refine gate_callee (f := 133) rfl ?_); refine goesL_ (some 6) rfl rfl Try.func133 (by kernel_rfl) rfl #[.pointer (some ⟨g, 0, none⟩)] rfl (by (try simp only [List.map_toArray, List.map_cons, List.map_nil]); first | done | rfl | (simp only [List.length_drop, List.length_take]; rfl)) ?_; (with_reducible refine (strict_Reader_goes.calls g s0_0 s0_1 s0_2 s0_3 true s0_0 s0_1 s0_2 s0_3 w0 _ ?side1 ?side2 A2.out).mono ?_); (case side1 => repeat (first | (with_reducible first | exact HI0.out | apply IsS56.alloc | apply IsS56.drewN | apply IsS56.drew | apply IsS56.set_0 | apply IsS56.set_1 | apply IsS56.set_2 | apply IsS56.set_3 | apply IsS56.sete_2 | with_unfolding_all rfl) | exact HI0.out)); (case side2 => repeat (first | (with_reducible first | exact HB.out | apply below_alloc | apply pw_below_drewN | apply below_drew1 | refine below_set ?_ (IsS56.ge HI0.out)) | exact HB.out)); rintro e w36 ⟨rfl, hi, hb, hk⟩; refine ⟨_, rfl, ?_⟩; have n0_ := Aside0.mk (KeepBut.trans (by repeat (first | (with_reducible first | exact HK.out | apply KeepBut.set_ | apply keep_drewN | apply keep_drew | apply keep_alloc) | exact HK.out)) hk (.inl rfl)); have n1_ := Aside0.mk (hb); have n2_ := Aside0.mk (hi); clear HK; clear HB; clear HI0; have HK := n0_; have HB := n1_; have HI0 := n2_; clear n0_ n1_ n2_; (try clear hb); (try clear hb2); (try clear hk); (try clear hi); (try simp only [errW_none, errW_some]); have BKp0 : Aside0 (w36.heap[g]? = some (.cells #[.string s0_0, .int .i64 s0_1, errW s0_2, .bool s0_3] 56 (0, 0))) := ⟨by obtain ⟨hb_, _⟩ := HI0.out; exact hb_⟩))
        have n0_ := Aside0.mk (blk_drew BKp0.out)
        have n1_ := Aside0.mk (IsS56.drew HI0.out)
        have n2_ := Aside0.mk (keep_drew HK.out)
        have n3_ := Aside0.mk (below_drew1 HB.out)
        clear BKp0
        clear HI0
        clear HK
        clear HB
        have BKp0 := n0_
        have HI0 := n1_
        have HK := n2_
        have HB := n3_
        clear n0_ n1_ n2_ n3_
        refine start_ (n := 15) (S := fun w' => w'.cell? ⟨g, 0, none⟩ = some (.string s0_0) ∧ w'.cell? ⟨g, 1, none⟩ = some (.int .i64 s0_1) ∧ w'.cell? ⟨g, 2, none⟩ = some (errW s0_2) ∧ w'.cell? ⟨g, 3, none⟩ = some (.bool s0_3)) (ds := []) #[false, false, false, false, false, false, false, false, false, false, false, false, false, false, false] (by kernel_rfl) rfl rfl ⟨(blk_cell BKp0.out 0).trans rfl, (blk_cell BKp0.out 1).trans rfl, (blk_cell BKp0.out 2).trans rfl, (blk_cell BKp0.out 3).trans rfl⟩ (fun hHeld => ?_); refine with_tabW strict_Reader_Serial.tab3 strict_Reader_Serial.bits3 (fun HT_ HW_ => ?_)
        generalize w36.drew = w37 at BKp0 HI0 HK HB hHeld ⊢
        refine pure_ (i := 0) (N := some 9) (v := ?_) (a' := ?_) #[true, false, false, false, false, false, false, false, false, false, false, false, false, false, false] rfl rfl (any_of HT_.out (by kernel_rfl)) (fun _ _ _ h => h) (Or.inl ⟨by rfl, ?_⟩) ?_ ?_
        rotate_left
        · intro w'
          go_simp
          with_reducible rfl
        rotate_left
        · simp only [Act.put, List.setIfInBounds_toArray, List.set_cons_zero, List.set_cons_succ, i64_w, i32_w]
          rfl
        refine pure_ (i := 1) (N := some 10) (v := ?_) (a' := ?_) #[true, true, false, false, false, false, false, false, false, false, false, false, false, false, false] rfl rfl (any_of HT_.out (by kernel_rfl)) (fun _ _ _ h => h) (Or.inl ⟨by rfl, ?_⟩) ?_ ?_
        rotate_left
        · intro w'
          go_simp
          with_reducible rfl
        rotate_left
        · simp only [Act.put, List.setIfInBounds_toArray, List.set_cons_zero, List.set_cons_succ, i64_w, i32_w]
          rfl
        refine pure_ (i := 2) (N := some 11) (v := ?_) (a' := ?_) #[true, true, true, false, false, false, false, false, false, false, false, false, false, false, false] rfl rfl (any_of HT_.out (by kernel_rfl)) (fun _ _ _ h => h) (Or.inl ⟨by rfl, ?_⟩) ?_ ?_
        rotate_left
        · intro w'
          go_simp
          with_reducible rfl
        rotate_left
        · simp only [Act.put, List.setIfInBounds_toArray, List.set_cons_zero, List.set_cons_succ, i64_w, i32_w]
          rfl
        refine pure_ (i := 4) (N := some 13) (v := ?_) (a' := ?_) #[true, true, true, false, true, false, false, false, false, false, false, false, false, false, false] rfl rfl (any_of HT_.out (by kernel_rfl)) (fun _ _ _ h => h) (Or.inl ⟨by rfl, ?_⟩) ?_ ?_
        rotate_left
        · intro w'
          go_simp
          with_reducible rfl
        rotate_left
        · simp only [Act.put, List.setIfInBounds_toArray, List.set_cons_zero, List.set_cons_succ, i64_w, i32_w]
          rfl
        refine pure_ (i := 5) (N := some 14) (v := ?_) (a' := ?_) #[true, true, true, false, true, true, false, false, false, false, false, false, false, false, false] rfl rfl (any_of HT_.out (by kernel_rfl)) (fun _ _ _ h => h) (Or.inl ⟨by rfl, ?_⟩) ?_ ?_
        rotate_left
        · intro w'
          go_simp
          with_reducible rfl
        rotate_left
        · simp only [Act.put, List.setIfInBounds_toArray, List.set_cons_zero, List.set_cons_succ, i64_w, i32_w]
          rfl
        refine pure_ (i := 6) (N := some 15) (v := ?_) (a' := ?_) #[true, true, true, false, true, true, true, false, false, false, false, false, false, false, false] rfl rfl (any_of HT_.out (by kernel_rfl)) (fun _ _ _ h => h) (Or.inl ⟨by rfl, ?_⟩) ?_ ?_
        rotate_left
        · intro w'
          go_simp
          with_reducible rfl
        rotate_left
        · simp only [Act.put, List.setIfInBounds_toArray, List.set_cons_zero, List.set_cons_succ, i64_w, i32_w]
          rfl
        refine take_ (i := 3) (N := some 12) (v := ?_) (a' := ?_) #[true, true, true, true, true, true, true, false, false, false, false, false, false, false, false] rfl rfl (take_ofW HT_.out HW_.out (by kernel_rfl)) (fun _ _ _ h => h) (Or.inl ⟨by rfl, ?_⟩) hHeld ?_ ?_
        rotate_left
        · rintro w' ⟨s0, s1, s2, s3⟩
          go_simp
          with_reducible rfl
        rotate_left
        · simp only [Act.put, List.setIfInBounds_toArray, List.set_cons_zero, List.set_cons_succ, i64_w, i32_w]
          rfl
        refine take_ (i := 7) (N := some 16) (v := ?_) (a' := ?_) #[true, true, true, true, true, true, true, true, false, false, false, false, false, false, false] rfl rfl (take_ofW HT_.out HW_.out (by kernel_rfl)) (fun _ _ _ h => h) (Or.inl ⟨by rfl, ?_⟩) hHeld ?_ ?_
        rotate_left
        · rintro w' ⟨s0, s1, s2, s3⟩
          go_simp
          with_reducible rfl
        rotate_left
        · simp only [Act.put, List.setIfInBounds_toArray, List.set_cons_zero, List.set_cons_succ, i64_w, i32_w]
          rfl
        refine join_ (σ := Nat) 2 #[true, true, true, true, true, true, true, true, true, true, true, true, true, false, false] (fun s_ => [(17, .tuple #[.agg #[.string t469, .int .i64 t470], .int .i64 t471]), (3, .pointer (some ⟨s_, 0, none⟩)), (8, .tuple #[.agg #[.string t469, .int .i64 t470], .int .i64 t471]), (18, .agg #[.string t469, .int .i64 t470]), (19, .int .i64 t471)]) (fun s_ w' => (w'.cell? ⟨g, 0, none⟩ = some (.string s0_0) ∧ w'.cell? ⟨g, 1, none⟩ = some (.int .i64 s0_1) ∧ w'.cell? ⟨g, 2, none⟩ = some (errW s0_2) ∧ w'.cell? ⟨g, 3, none⟩ = some (.bool s0_3)) ∧ (w'.heap[s_]? = some (.cells #[.string (⟨#[]⟩ : ByteArray), .int .i64 0] 207 (0, 0))) ∧ (w'.heap[g]? = some (.cells #[.string s0_0, .int .i64 s0_1, errW s0_2, .bool s0_3] 56 (0, 0))) ∧ (w.heap.size ≤ s_) ∧ (w0.heap.size ≤ s_) ∧ (g ≠ s_) ∧ (s_ ≠ g) ∧ (IsS56 w0 w' g s0_0 s0_1 s0_2 s0_3) ∧ (KeepBut w w' g none) ∧ (Below w0.heap.size w0 w')) ?_ ?_
        rotate_left
        · intro hCont
          refine two_ (i := 8) (j := 12) (Ni := some 17) (Nj := some 3) #[true, true, true, true, true, true, true, true, true, false, false, false, false, false, false] #[true, true, true, true, true, true, true, true, false, false, false, false, true, false, false] rfl rfl rfl rfl (two_of HT_.out (by kernel_rfl)) (by decide) (by decide) (fun K hK => ?_) (fun K hK => ?_)
          · skip
            refine goes_ Try.func136 (by kernel_rfl) rfl #[.string s0_0, .int .i64 s0_1, .int .i64 16] (by rfl) rfl rfl (by (try simp only [List.map_toArray, List.map_cons, List.map_nil]); first | done | rfl | (simp only [List.length_drop, List.length_take]; rfl)) ?_
            with_reducible refine (octet_Take.calls k s0_0 s0_1 16 t469 t470 t471 _ A4.out).mono ?_
            rintro e w38 ⟨rfl, hb⟩
            refine ⟨_, rfl, ?_⟩
            have n0_ := Aside0.mk (IsS56.below (by repeat (first | (with_reducible first | exact HI0.out | apply IsS56.alloc | apply IsS56.drewN | apply IsS56.drew | apply IsS56.set_0 | apply IsS56.set_1 | apply IsS56.set_2 | apply IsS56.set_3 | apply IsS56.sete_2 | with_unfolding_all rfl | refine IsS56.far ?_ NB0_0.out _) | exact HI0.out)) hb)
            have n1_ := Aside0.mk (blk_below (g := g) (o := .cells #[.string s0_0, .int .i64 s0_1, errW s0_2, .bool s0_3] 56 (0, 0)) (by (with_reducible repeat (first | refine blk_drewN ?_ _ | refine blk_drew ?_ | refine blk_alloc ?_ _)); exact BKp0.out) hb)
            have n2_ := Aside0.mk (KeepBut.trans (by repeat (first | (with_reducible first | exact HK.out | apply KeepBut.set_ | apply keep_drewN | apply keep_drew | apply keep_alloc | refine keep_far ?_ GW0.out _) | exact HK.out)) (KeepBut.of_below hb g none) (.inl rfl))
            have n3_ := Aside0.mk (below_step (by repeat (first | (with_reducible first | exact HB.out | apply below_alloc | apply pw_below_drewN | apply below_drew1 | refine below_set ?_ (IsS56.ge HI0.out) | refine below_set ?_ GE0.out) | exact HB.out)) hb)
            clear HI0
            clear BKp0
            clear HK
            clear HB
            have HI0 := n0_
            have BKp0 := n1_
            have HK := n2_
            have HB := n3_
            clear n0_ n1_ n2_ n3_
            (try clear hb)
            (try clear hb2)
            (try clear hk)
            (try clear hi)
            refine hK.out _ _ ⟨(blk_cell BKp0.out 0).trans rfl, (blk_cell BKp0.out 1).trans rfl, (blk_cell BKp0.out 2).trans rfl, (blk_cell BKp0.out 3).trans rfl⟩ (fun hHeld => ?_)
            clear hK K
            refine norm_ (a' := ?_) ?_ ?_
            rotate_left
            · show Act.put _ (some 17) _ = _
              simp only [Act.put, List.setIfInBounds_toArray, List.set_cons_zero, List.set_cons_succ, i64_w, i32_w]
              rfl
            refine pure_ (i := 9) (N := some 8) (v := ?_) (a' := ?_) #[true, true, true, true, true, true, true, true, true, true, false, false, false, false, false] rfl rfl (any_of HT_.out (by kernel_rfl)) (fun _ _ _ h => h) (Or.inl ⟨by rfl, ?_⟩) ?_ ?_
            rotate_left
            · intro w'
              go_simp
              with_reducible rfl
            rotate_left
            · simp only [Act.put, List.setIfInBounds_toArray, List.set_cons_zero, List.set_cons_succ, i64_w, i32_w]
              rfl
            refine pure_ (i := 10) (N := some 18) (v := ?_) (a' := ?_) #[true, true, true, true, true, true, true, true, true, true, true, false, false, false, false] rfl rfl (any_of HT_.out (by kernel_rfl)) (fun _ _ _ h => h) (Or.inl ⟨by rfl, ?_⟩) ?_ ?_
            rotate_left
            · intro w'
              go_simp
              with_reducible rfl
            rotate_left
            · simp only [Act.put, List.setIfInBounds_toArray, List.set_cons_zero, List.set_cons_succ, i64_w, i32_w]
              rfl
            refine pure_ (i := 11) (N := some 19) (v := ?_) (a' := ?_) #[true, true, true, true, true, true, true, true, true, true, true, true, false, false, false] rfl rfl (any_of HT_.out (by kernel_rfl)) (fun _ _ _ h => h) (Or.inl ⟨by rfl, ?_⟩) ?_ ?_
            rotate_left
            · intro w'
              go_simp
              with_reducible rfl
            rotate_left
            · simp only [Act.put, List.setIfInBounds_toArray, List.set_cons_zero, List.set_cons_succ, i64_w, i32_w]
              rfl
            refine one_ (i := 12) (N := some 3) #[true, true, true, true, true, true, true, true, true, true, true, true, true, false, false] rfl rfl (one_of HT_.out (by kernel_rfl)) (by decide) (fun K hK => ?_)
            refine box_step ?hg (N := 3) ?hd (cs := #[.string (⟨#[]⟩ : ByteArray), .int .i64 0]) (t := 207) ?hr ?_; (case hd => rfl); (case hg => rfl); (case hr => first | (go_simp; done) | (go_simp; rfl))
            intro gb472 hg w39 hbox hb
            have n0_ := Aside0.mk (IsS56.below (by repeat (first | (with_reducible first | exact HI0.out | apply IsS56.alloc | apply IsS56.drewN | apply IsS56.drew | apply IsS56.set_0 | apply IsS56.set_1 | apply IsS56.set_2 | apply IsS56.set_3 | apply IsS56.sete_2 | with_unfolding_all rfl | refine IsS56.far ?_ NB0_0.out _) | exact HI0.out)) hb)
            have n1_ := Aside0.mk (blk_below (g := g) (o := .cells #[.string s0_0, .int .i64 s0_1, errW s0_2, .bool s0_3] 56 (0, 0)) (by (with_reducible repeat (first | refine blk_drewN ?_ _ | refine blk_drew ?_ | refine blk_alloc ?_ _)); exact BKp0.out) hb)
            have n2_ := Aside0.mk (KeepBut.trans (by repeat (first | (with_reducible first | exact HK.out | apply KeepBut.set_ | apply keep_drewN | apply keep_drew | apply keep_alloc | refine keep_far ?_ GW0.out _) | exact HK.out)) (KeepBut.of_below hb g none) (.inl rfl))
            have n3_ := Aside0.mk (below_step (by repeat (first | (with_reducible first | exact HB.out | apply below_alloc | apply pw_below_drewN | apply below_drew1 | refine below_set ?_ (IsS56.ge HI0.out) | refine below_set ?_ GE0.out) | exact HB.out)) hb)
            have n4_ := Aside0.mk (hbox)
            have n5_ := Aside0.mk ((by rw [hg]; exact (keep_size (w := w) (g := g) (row := none) (by repeat (first | (with_reducible first | exact HK.out | apply KeepBut.set_ | apply keep_drewN | apply keep_drew | apply keep_alloc | refine keep_far ?_ GW0.out _) | exact HK.out))) : w.heap.size ≤ gb472))
            have n6_ := Aside0.mk ((Nat.le_trans HW0.out (by rw [hg]; exact (keep_size (w := w) (g := g) (row := none) (by repeat (first | (with_reducible first | exact HK.out | apply KeepBut.set_ | apply keep_drewN | apply keep_drew | apply keep_alloc | refine keep_far ?_ GW0.out _) | exact HK.out))) : w.heap.size ≤ gb472) : w0.heap.size ≤ gb472))
            have n7_ := Aside0.mk ((by rw [hg]; exact Nat.ne_of_lt (blk_lt (g := g) (o := .cells #[.string s0_0, .int .i64 s0_1, errW s0_2, .bool s0_3] 56 (0, 0)) (by (with_reducible repeat (first | refine blk_drewN ?_ _ | refine blk_drew ?_ | refine blk_alloc ?_ _)); exact BKp0.out)) : g ≠ gb472))
            have n8_ := Aside0.mk ((by rw [hg]; exact Nat.ne_of_gt (blk_lt (g := g) (o := .cells #[.string s0_0, .int .i64 s0_1, errW s0_2, .bool s0_3] 56 (0, 0)) (by (with_reducible repeat (first | refine blk_drewN ?_ _ | refine blk_drew ?_ | refine blk_alloc ?_ _)); exact BKp0.out)) : gb472 ≠ g))
            have n9_ := Aside0.mk ((by rw [hg]; exact Nat.ne_of_lt (IsS56.lt (show IsS56 w0 _ g s0_0 s0_1 s0_2 s0_3 from by repeat (first | (with_reducible first | exact HI0.out | apply IsS56.alloc | apply IsS56.drewN | apply IsS56.drew | apply IsS56.set_0 | apply IsS56.set_1 | apply IsS56.set_2 | apply IsS56.set_3 | apply IsS56.sete_2 | with_unfolding_all rfl | refine IsS56.far ?_ NB0_0.out _) | exact HI0.out))) : g ≠ gb472))
            have n10_ := Aside0.mk ((by rw [hg]; exact Nat.ne_of_gt (IsS56.lt (show IsS56 w0 _ g s0_0 s0_1 s0_2 s0_3 from by repeat (first | (with_reducible first | exact HI0.out | apply IsS56.alloc | apply IsS56.drewN | apply IsS56.drew | apply IsS56.set_0 | apply IsS56.set_1 | apply IsS56.set_2 | apply IsS56.set_3 | apply IsS56.sete_2 | with_unfolding_all rfl | refine IsS56.far ?_ NB0_0.out _) | exact HI0.out))) : gb472 ≠ g))
            clear HI0
            clear BKp0
            clear HK
            clear HB
            have HI0 := n0_
            have BKp0 := n1_
            have HK := n2_
            have HB := n3_
            have BK472 := n4_
            have GW472 := n5_
            have GE472 := n6_
            have NB0_472 := n7_
            have NB472_0 := n8_
            have NB0_472 := n9_
            have NB472_0 := n10_
            clear n0_ n1_ n2_ n3_ n4_ n5_ n6_ n7_ n8_ n9_ n10_
            clear hb hbox hg
            refine hK.out _ _ ⟨(blk_cell BKp0.out 0).trans rfl, (blk_cell BKp0.out 1).trans rfl, (blk_cell BKp0.out 2).trans rfl, (blk_cell BKp0.out 3).trans rfl⟩ (fun hHeld => ?_)
            clear hK K
            refine norm_ (a' := ?_) ?_ ?_
            rotate_left
            · show Act.put _ (some 3) _ = _
              simp only [Act.put, List.setIfInBounds_toArray, List.set_cons_zero, List.set_cons_succ, i64_w, i32_w]
              rfl
            exact norm_ (by simp only [putAll, Act.put, List.setIfInBounds_toArray, List.set_cons_zero, List.set_cons_succ]) (hCont (gb472) _ ⟨hHeld, (by (with_reducible repeat (first | refine blk_drewN ?_ _ | refine blk_drew ?_ | refine blk_alloc ?_ _)); exact BK472.out), (by (with_reducible repeat (first | refine blk_drewN ?_ _ | refine blk_drew ?_ | refine blk_alloc ?_ _)); exact BKp0.out), GW472.out, GE472.out, NB0_472.out, NB472_0.out, (by repeat (first | (with_reducible first | exact HI0.out | apply IsS56.alloc | apply IsS56.drewN | apply IsS56.drew | apply IsS56.set_0 | apply IsS56.set_1 | apply IsS56.set_2 | apply IsS56.set_3 | apply IsS56.sete_2 | with_unfolding_all rfl | refine IsS56.far ?_ NB0_0.out _ | refine IsS56.far ?_ NB0_472.out _) | exact HI0.out)), (by repeat (first | (with_reducible first | exact HK.out | apply KeepBut.set_ | apply keep_drewN | apply keep_drew | apply keep_alloc | refine keep_far ?_ GW0.out _ | refine keep_far ?_ GW472.out _) | exact HK.out)), (by repeat (first | (with_reducible first | exact HB.out | apply below_alloc | apply pw_below_drewN | apply below_drew1 | refine below_set ?_ (IsS56.ge HI0.out) | refine below_set ?_ GE0.out | refine below_set ?_ GE472.out) | exact HB.out))⟩)
          · skip
            refine box_step ?hg (N := 3) ?hd (cs := #[.string (⟨#[]⟩ : ByteArray), .int .i64 0]) (t := 207) ?hr ?_; (case hd => rfl); (case hg => rfl); (case hr => first | (go_simp; done) | (go_simp; rfl))
            intro gb472 hg w38 hbox hb
            have n0_ := Aside0.mk (IsS56.below (by repeat (first | (with_reducible first | exact HI0.out | apply IsS56.alloc | apply IsS56.drewN | apply IsS56.drew | apply IsS56.set_0 | apply IsS56.set_1 | apply IsS56.set_2 | apply IsS56.set_3 | apply IsS56.sete_2 | with_unfolding_all rfl | refine IsS56.far ?_ NB0_0.out _) | exact HI0.out)) hb)
            have n1_ := Aside0.mk (blk_below (g := g) (o := .cells #[.string s0_0, .int .i64 s0_1, errW s0_2, .bool s0_3] 56 (0, 0)) (by (with_reducible repeat (first | refine blk_drewN ?_ _ | refine blk_drew ?_ | refine blk_alloc ?_ _)); exact BKp0.out) hb)
            have n2_ := Aside0.mk (KeepBut.trans (by repeat (first | (with_reducible first | exact HK.out | apply KeepBut.set_ | apply keep_drewN | apply keep_drew | apply keep_alloc | refine keep_far ?_ GW0.out _) | exact HK.out)) (KeepBut.of_below hb g none) (.inl rfl))
            have n3_ := Aside0.mk (below_step (by repeat (first | (with_reducible first | exact HB.out | apply below_alloc | apply pw_below_drewN | apply below_drew1 | refine below_set ?_ (IsS56.ge HI0.out) | refine below_set ?_ GE0.out) | exact HB.out)) hb)
            have n4_ := Aside0.mk (hbox)
            have n5_ := Aside0.mk ((by rw [hg]; exact (keep_size (w := w) (g := g) (row := none) (by repeat (first | (with_reducible first | exact HK.out | apply KeepBut.set_ | apply keep_drewN | apply keep_drew | apply keep_alloc | refine keep_far ?_ GW0.out _) | exact HK.out))) : w.heap.size ≤ gb472))
            have n6_ := Aside0.mk ((Nat.le_trans HW0.out (by rw [hg]; exact (keep_size (w := w) (g := g) (row := none) (by repeat (first | (with_reducible first | exact HK.out | apply KeepBut.set_ | apply keep_drewN | apply keep_drew | apply keep_alloc | refine keep_far ?_ GW0.out _) | exact HK.out))) : w.heap.size ≤ gb472) : w0.heap.size ≤ gb472))
            have n7_ := Aside0.mk ((by rw [hg]; exact Nat.ne_of_lt (blk_lt (g := g) (o := .cells #[.string s0_0, .int .i64 s0_1, errW s0_2, .bool s0_3] 56 (0, 0)) (by (with_reducible repeat (first | refine blk_drewN ?_ _ | refine blk_drew ?_ | refine blk_alloc ?_ _)); exact BKp0.out)) : g ≠ gb472))
            have n8_ := Aside0.mk ((by rw [hg]; exact Nat.ne_of_gt (blk_lt (g := g) (o := .cells #[.string s0_0, .int .i64 s0_1, errW s0_2, .bool s0_3] 56 (0, 0)) (by (with_reducible repeat (first | refine blk_drewN ?_ _ | refine blk_drew ?_ | refine blk_alloc ?_ _)); exact BKp0.out)) : gb472 ≠ g))
            have n9_ := Aside0.mk ((by rw [hg]; exact Nat.ne_of_lt (IsS56.lt (show IsS56 w0 _ g s0_0 s0_1 s0_2 s0_3 from by repeat (first | (with_reducible first | exact HI0.out | apply IsS56.alloc | apply IsS56.drewN | apply IsS56.drew | apply IsS56.set_0 | apply IsS56.set_1 | apply IsS56.set_2 | apply IsS56.set_3 | apply IsS56.sete_2 | with_unfolding_all rfl | refine IsS56.far ?_ NB0_0.out _) | exact HI0.out))) : g ≠ gb472))
            have n10_ := Aside0.mk ((by rw [hg]; exact Nat.ne_of_gt (IsS56.lt (show IsS56 w0 _ g s0_0 s0_1 s0_2 s0_3 from by repeat (first | (with_reducible first | exact HI0.out | apply IsS56.alloc | apply IsS56.drewN | apply IsS56.drew | apply IsS56.set_0 | apply IsS56.set_1 | apply IsS56.set_2 | apply IsS56.set_3 | apply IsS56.sete_2 | with_unfolding_all rfl | refine IsS56.far ?_ NB0_0.out _) | exact HI0.out))) : gb472 ≠ g))
            clear HI0
            clear BKp0
            clear HK
            clear HB
            have HI0 := n0_
            have BKp0 := n1_
            have HK := n2_
            have HB := n3_
            have BK472 := n4_
            have GW472 := n5_
            have GE472 := n6_
            have NB0_472 := n7_
            have NB472_0 := n8_
            have NB0_472 := n9_
            have NB472_0 := n10_
            clear n0_ n1_ n2_ n3_ n4_ n5_ n6_ n7_ n8_ n9_ n10_
            clear hb hbox hg
            refine hK.out _ _ ⟨(blk_cell BKp0.out 0).trans rfl, (blk_cell BKp0.out 1).trans rfl, (blk_cell BKp0.out 2).trans rfl, (blk_cell BKp0.out 3).trans rfl⟩ (fun hHeld => ?_)
            clear hK K
            refine norm_ (a' := ?_) ?_ ?_
            rotate_left
            · show Act.put _ (some 3) _ = _
              simp only [Act.put, List.setIfInBounds_toArray, List.set_cons_zero, List.set_cons_succ, i64_w, i32_w]
              rfl
            refine one_ (i := 8) (N := some 17) #[true, true, true, true, true, true, true, true, true, false, false, false, true, false, false] rfl rfl (one_of HT_.out (by kernel_rfl)) (by decide) (fun K hK => ?_)
            refine goes_ Try.func136 (by kernel_rfl) rfl #[.string s0_0, .int .i64 s0_1, .int .i64 16] (by rfl) rfl rfl (by (try simp only [List.map_toArray, List.map_cons, List.map_nil]); first | done | rfl | (simp only [List.length_drop, List.length_take]; rfl)) ?_
            with_reducible refine (octet_Take.calls k s0_0 s0_1 16 t469 t470 t471 _ A4.out).mono ?_
            rintro e w39 ⟨rfl, hb⟩
            refine ⟨_, rfl, ?_⟩
            have n0_ := Aside0.mk (IsS56.below (by repeat (first | (with_reducible first | exact HI0.out | apply IsS56.alloc | apply IsS56.drewN | apply IsS56.drew | apply IsS56.set_0 | apply IsS56.set_1 | apply IsS56.set_2 | apply IsS56.set_3 | apply IsS56.sete_2 | with_unfolding_all rfl | refine IsS56.far ?_ NB0_0.out _ | refine IsS56.far ?_ NB0_472.out _) | exact HI0.out)) hb)
            have n1_ := Aside0.mk (blk_below (g := g) (o := .cells #[.string s0_0, .int .i64 s0_1, errW s0_2, .bool s0_3] 56 (0, 0)) (by (with_reducible repeat (first | refine blk_drewN ?_ _ | refine blk_drew ?_ | refine blk_alloc ?_ _)); exact BKp0.out) hb)
            have n2_ := Aside0.mk (blk_below (g := gb472) (o := .cells #[.string (⟨#[]⟩ : ByteArray), .int .i64 0] 207 (0, 0)) (by (with_reducible repeat (first | refine blk_drewN ?_ _ | refine blk_drew ?_ | refine blk_alloc ?_ _)); exact BK472.out) hb)
            have n3_ := Aside0.mk (KeepBut.trans (by repeat (first | (with_reducible first | exact HK.out | apply KeepBut.set_ | apply keep_drewN | apply keep_drew | apply keep_alloc | refine keep_far ?_ GW0.out _ | refine keep_far ?_ GW472.out _) | exact HK.out)) (KeepBut.of_below hb g none) (.inl rfl))
            have n4_ := Aside0.mk (below_step (by repeat (first | (with_reducible first | exact HB.out | apply below_alloc | apply pw_below_drewN | apply below_drew1 | refine below_set ?_ (IsS56.ge HI0.out) | refine below_set ?_ GE0.out | refine below_set ?_ GE472.out) | exact HB.out)) hb)
            clear HI0
            clear BKp0
            clear BK472
            clear HK
            clear HB
            have HI0 := n0_
            have BKp0 := n1_
            have BK472 := n2_
            have HK := n3_
            have HB := n4_
            clear n0_ n1_ n2_ n3_ n4_
            (try clear hb)
            (try clear hb2)
            (try clear hk)
            (try clear hi)
            refine hK.out _ _ ⟨(blk_cell BKp0.out 0).trans rfl, (blk_cell BKp0.out 1).trans rfl, (blk_cell BKp0.out 2).trans rfl, (blk_cell BKp0.out 3).trans rfl⟩ (fun hHeld => ?_)
            clear hK K
            refine norm_ (a' := ?_) ?_ ?_
            rotate_left
            · show Act.put _ (some 17) _ = _
              simp only [Act.put, List.setIfInBounds_toArray, List.set_cons_zero, List.set_cons_succ, i64_w, i32_w]
              rfl
            refine pure_ (i := 9) (N := some 8) (v := ?_) (a' := ?_) #[true, true, true, true, true, true, true, true, true, true, false, false, true, false, false] rfl rfl (any_of HT_.out (by kernel_rfl)) (fun _ _ _ h => h) (Or.inl ⟨by rfl, ?_⟩) ?_ ?_
            rotate_left
            · intro w'
              go_simp
              with_reducible rfl
            rotate_left
            · simp only [Act.put, List.setIfInBounds_toArray, List.set_cons_zero, List.set_cons_succ, i64_w, i32_w]
              rfl
            refine pure_ (i := 10) (N := some 18) (v := ?_) (a' := ?_) #[true, true, true, true, true, true, true, true, true, true, true, false, true, false, false] rfl rfl (any_of HT_.out (by kernel_rfl)) (fun _ _ _ h => h) (Or.inl ⟨by rfl, ?_⟩) ?_ ?_
            rotate_left
            · intro w'
              go_simp
              with_reducible rfl
            rotate_left
            · simp only [Act.put, List.setIfInBounds_toArray, List.set_cons_zero, List.set_cons_succ, i64_w, i32_w]
              rfl
            refine pure_ (i := 11) (N := some 19) (v := ?_) (a' := ?_) #[true, true, true, true, true, true, true, true, true, true, true, true, true, false, false] rfl rfl (any_of HT_.out (by kernel_rfl)) (fun _ _ _ h => h) (Or.inl ⟨by rfl, ?_⟩) ?_ ?_
            rotate_left
            · intro w'
              go_simp
              with_reducible rfl
            rotate_left
            · simp only [Act.put, List.setIfInBounds_toArray, List.set_cons_zero, List.set_cons_succ, i64_w, i32_w]
              rfl
            exact norm_ (by simp only [putAll, Act.put, List.setIfInBounds_toArray, List.set_cons_zero, List.set_cons_succ]) (hCont (gb472) _ ⟨hHeld, (by (with_reducible repeat (first | refine blk_drewN ?_ _ | refine blk_drew ?_ | refine blk_alloc ?_ _)); exact BK472.out), (by (with_reducible repeat (first | refine blk_drewN ?_ _ | refine blk_drew ?_ | refine blk_alloc ?_ _)); exact BKp0.out), GW472.out, GE472.out, NB0_472.out, NB472_0.out, (by repeat (first | (with_reducible first | exact HI0.out | apply IsS56.alloc | apply IsS56.drewN | apply IsS56.drew | apply IsS56.set_0 | apply IsS56.set_1 | apply IsS56.set_2 | apply IsS56.set_3 | apply IsS56.sete_2 | with_unfolding_all rfl | refine IsS56.far ?_ NB0_0.out _ | refine IsS56.far ?_ NB0_472.out _) | exact HI0.out)), (by repeat (first | (with_reducible first | exact HK.out | apply KeepBut.set_ | apply keep_drewN | apply keep_drew | apply keep_alloc | refine keep_far ?_ GW0.out _ | refine keep_far ?_ GW472.out _) | exact HK.out)), (by repeat (first | (with_reducible first | exact HB.out | apply below_alloc | apply pw_below_drewN | apply below_drew1 | refine below_set ?_ (IsS56.ge HI0.out) | refine below_set ?_ GE0.out | refine below_set ?_ GE472.out) | exact HB.out))⟩)
        rintro gb472 w40 ⟨hS_, h0_, h1_, h2_, h3_, h4_, h5_, h6_, h7_, h8_⟩
        have n0_ : Aside0 (w40.heap[gb472]? = some (.cells #[.string (⟨#[]⟩ : ByteArray), .int .i64 0] 207 (0, 0))) := ⟨h0_⟩
        have n1_ : Aside0 (w40.heap[g]? = some (.cells #[.string s0_0, .int .i64 s0_1, errW s0_2, .bool s0_3] 56 (0, 0))) := ⟨h1_⟩
        have n2_ : Aside0 (w.heap.size ≤ gb472) := ⟨h2_⟩
        have n3_ : Aside0 (w0.heap.size ≤ gb472) := ⟨h3_⟩
        have n4_ : Aside0 (g ≠ gb472) := ⟨h4_⟩
        have n5_ : Aside0 (gb472 ≠ g) := ⟨h5_⟩
        have n6_ : Aside0 (IsS56 w0 w40 g s0_0 s0_1 s0_2 s0_3) := ⟨h6_⟩
        have n7_ : Aside0 (KeepBut w w40 g none) := ⟨h7_⟩
        have n8_ : Aside0 (Below w0.heap.size w0 w40) := ⟨h8_⟩
        clear BKp0
        clear HI0
        clear HK
        clear HB
        clear h0_ h1_ h2_ h3_ h4_ h5_ h6_ h7_ h8_
        have BK472 := n0_
        have BKp0 := n1_
        have GW472 := n2_
        have GE472 := n3_
        have NB0_472 := n4_
        have NB472_0 := n5_
        have HI0 := n6_
        have HK := n7_
        have HB := n8_
        clear n0_ n1_ n2_ n3_ n4_ n5_ n6_ n7_ n8_
        have hHeld : w40.cell? ⟨g, 0, none⟩ = some (.string s0_0) ∧ w40.cell? ⟨g, 1, none⟩ = some (.int .i64 s0_1) ∧ w40.cell? ⟨g, 2, none⟩ = some (errW s0_2) ∧ w40.cell? ⟨g, 3, none⟩ = some (.bool s0_3) := hS_
        refine norm_ (a' := ?_) ?_ ?_
        rotate_left
        · simp only [putAll, Act.put, List.setIfInBounds_toArray, List.set_cons_zero, List.set_cons_succ]
          rfl
        refine one_ (i := 13) (N := none) #[true, true, true, true, true, true, true, true, true, true, true, true, true, true, false] rfl rfl (one_of HT_.out (by kernel_rfl)) (by decide) (fun K hK => ?_)
        have hs41 : w40.cell? ⟨gb472, 0, none⟩ = some (.string (⟨#[]⟩ : ByteArray)) := (blk_cell BK472.out 0).trans rfl
        have hfs41 := blk_frozen BK472.out 0
        have hns41_0 := NB0_472.out
        have hms41_0 := NB472_0.out
        have hs42 : w40.cell? ⟨gb472, 1, none⟩ = some (.int .i64 0) := (blk_cell BK472.out 1).trans rfl
        have hfs42 := blk_frozen BK472.out 1
        have hns42_0 := NB0_472.out
        have hms42_0 := NB472_0.out
        refine skip_ (w1 := ?_) (by rfl) rfl ?_ ?_
        rotate_left
        · go_simp
          rfl
        refine hK.out _ _ ⟨((cell_far (p := ⟨gb472, _, none⟩) NB0_472.out _).trans (((cell_far (p := ⟨gb472, _, none⟩) NB0_472.out _).trans (hHeld.1)))), ((cell_far (p := ⟨gb472, _, none⟩) NB0_472.out _).trans (((cell_far (p := ⟨gb472, _, none⟩) NB0_472.out _).trans (hHeld.2.1)))), ((cell_far (p := ⟨gb472, _, none⟩) NB0_472.out _).trans (((cell_far (p := ⟨gb472, _, none⟩) NB0_472.out _).trans (hHeld.2.2.1)))), ((cell_far (p := ⟨gb472, _, none⟩) NB0_472.out _).trans (((cell_far (p := ⟨gb472, _, none⟩) NB0_472.out _).trans (hHeld.2.2.2))))⟩ (fun hHeld => ?_)
        clear hK K
        refine pure_ (i := 14) (N := some 4) (v := ?_) (a' := ?_) #[true, true, true, true, true, true, true, true, true, true, true, true, true, true, true] rfl rfl (any_of HT_.out (by kernel_rfl)) (fun _ _ _ h => h) (Or.inl ⟨by rfl, ?_⟩) ?_ ?_
        rotate_left
        · intro w'
          go_simp
          with_reducible rfl
        rotate_left
        · simp only [Act.put, List.setIfInBounds_toArray, List.set_cons_zero, List.set_cons_succ, i64_w, i32_w]
          rfl
        refine done_ (done_of HT_.out (by kernel_rfl)) ?_
        clear BKp0
        have hnb43 := NB472_0.out
        have hnc43 := NB0_472.out
        have hcz44_0 : w40.cell? ⟨gb472, 0, none⟩ = some (.string (⟨#[]⟩ : ByteArray)) := (blk_cell BK472.out 0).trans rfl
        have hcz44_1 : w40.cell? ⟨gb472, 1, none⟩ = some (.int .i64 0) := (blk_cell BK472.out 1).trans rfl
        have hfz44_0 := blk_frozen BK472.out 0
        have hfz44_1 := blk_frozen BK472.out 1
        try go_wp2_with (first | ((with_reducible refine gate_callee (f := 135) rfl ?_); refine goesL_ (some 29) rfl rfl Try.func135 (by kernel_rfl) rfl #[.pointer (some ⟨g, 0, none⟩), .int .i64 t470, .int .i64 t471] rfl (by (try simp only [List.map_toArray, List.map_cons, List.map_nil]); first | done | rfl | (simp only [List.length_drop, List.length_take]; rfl)) ?_; (with_reducible refine (strict_Reader_done.calls g s0_0 s0_1 s0_2 s0_3 t470 t471 true t480 t481 t482 t483 w0 _ ?side1 ?side2 A34.out).mono ?_); (case side1 => repeat (first | (with_reducible first | exact HI0.out | apply IsS56.alloc | apply IsS56.drewN | apply IsS56.drew | apply IsS56.set_0 | apply IsS56.set_1 | apply IsS56.set_2 | apply IsS56.set_3 | apply IsS56.sete_2 | with_unfolding_all rfl | refine IsS56.far ?_ NB0_472.out _) | exact HI0.out)); (case side2 => repeat (first | (with_reducible first | exact HB.out | apply below_alloc | apply pw_below_drewN | apply below_drew1 | refine below_set ?_ (IsS56.ge HI0.out) | refine below_set ?_ GE472.out) | exact HB.out)); rintro e w45 ⟨rfl, hi, hb, hk⟩; refine ⟨_, rfl, ?_⟩; have n0_ := Aside0.mk (KeepBut.blk hk (g' := gb472) (o := .cells #[.string t469, .int .i64 t470] 207 (0, 0)) (by (with_reducible repeat (first | refine blk_drewN ?_ _ | refine blk_drew ?_ | refine blk_alloc ?_ _)); refine blk_put (cs := #[.string t469, .int .i64 0]) ?_ 1 _ rfl; (with_reducible repeat (first | refine blk_drewN ?_ _ | refine blk_drew ?_ | refine blk_alloc ?_ _)); refine blk_put (cs := #[.string (⟨#[]⟩ : ByteArray), .int .i64 0]) ?_ 0 _ rfl; (with_reducible repeat (first | refine blk_drewN ?_ _ | refine blk_drew ?_ | refine blk_alloc ?_ _)); exact BK472.out) NB472_0.out (by simp)); have n1_ := Aside0.mk (KeepBut.trans (by repeat (first | (with_reducible first | exact HK.out | apply KeepBut.set_ | apply keep_drewN | apply keep_drew | apply keep_alloc | refine keep_far ?_ GW472.out _) | exact HK.out)) hk (.inl rfl)); have n2_ := Aside0.mk (hb); have n3_ := Aside0.mk (hi); clear BK472; clear HK; clear HB; clear HI0; have BK472 := n0_; have HK := n1_; have HB := n2_; have HI0 := n3_; clear n0_ n1_ n2_ n3_; (try clear hb); (try clear hb2); (try clear hk); (try clear hi); (try simp only [errW_none, errW_some]); have hcz46_0 : w45.cell? ⟨gb472, 0, none⟩ = some (.string t469) := (blk_cell BK472.out 0).trans rfl; have hcz46_1 : w45.cell? ⟨gb472, 1, none⟩ = some (.int .i64 t470) := (blk_cell BK472.out 1).trans rfl; have hfz46_0 := blk_frozen BK472.out 0; have hfz46_1 := blk_frozen BK472.out 1))
        go_ret
        exact ⟨by first | rfl | (simp [errW_none, errW_some] <;> rfl) | (simp [*, errW_none, errW_some] <;> rfl), by repeat (first | (with_reducible first | exact HI0.out | apply IsS56.alloc | apply IsS56.drewN | apply IsS56.drew | apply IsS56.set_0 | apply IsS56.set_1 | apply IsS56.set_2 | apply IsS56.set_3 | apply IsS56.sete_2 | with_unfolding_all rfl | refine IsS56.far ?_ NB0_472.out _) | exact HI0.out), by repeat (first | (with_reducible first | exact HB.out | apply below_alloc | apply pw_below_drewN | apply below_drew1 | refine below_set ?_ (IsS56.ge HI0.out) | refine below_set ?_ GE472.out) | exact HB.out), by repeat (first | (with_reducible first | exact HK.out | apply KeepBut.set_ | apply keep_drewN | apply keep_drew | apply keep_alloc | refine keep_far ?_ GW472.out _) | exact HK.out)⟩
      · replace c35 := Bool.eq_false_iff.mpr c35
        subst c35
        have H1 : (some ((⟨#[]⟩ : ByteArray), t480, t481, t482, t483)) = some (r1, r2, r3, r4, r5) := by first | (rw [if_neg (show ¬ (false = true) by decide)] at H; exact H) | rfl
        clear H
        have H := H1
        clear H1
        simp only [Option.some.injEq, Prod.mk.injEq] at H
        obtain ⟨rfl, rfl, rfl, rfl, rfl⟩ := H
        go_enter Try.func43, Try.ntmps43
        try go_wp2_with (first | ((with_reducible refine gate_callee (f := 133) rfl ?_); refine goesL_ (some 6) rfl rfl Try.func133 (by kernel_rfl) rfl #[.pointer (some ⟨g, 0, none⟩)] rfl (by (try simp only [List.map_toArray, List.map_cons, List.map_nil]); first | done | rfl | (simp only [List.length_drop, List.length_take]; rfl)) ?_; (with_reducible refine (strict_Reader_goes.calls g s0_0 s0_1 s0_2 s0_3 true s0_0 s0_1 s0_2 s0_3 w0 _ ?side1 ?side2 A2.out).mono ?_); (case side1 => repeat (first | (with_reducible first | exact HI0.out | apply IsS56.alloc | apply IsS56.drewN | apply IsS56.drew | apply IsS56.set_0 | apply IsS56.set_1 | apply IsS56.set_2 | apply IsS56.set_3 | apply IsS56.sete_2 | with_unfolding_all rfl) | exact HI0.out)); (case side2 => repeat (first | (with_reducible first | exact HB.out | apply below_alloc | apply pw_below_drewN | apply below_drew1 | refine below_set ?_ (IsS56.ge HI0.out)) | exact HB.out)); rintro e w47 ⟨rfl, hi, hb, hk⟩; refine ⟨_, rfl, ?_⟩; have n0_ := Aside0.mk (KeepBut.trans (by repeat (first | (with_reducible first | exact HK.out | apply KeepBut.set_ | apply keep_drewN | apply keep_drew | apply keep_alloc) | exact HK.out)) hk (.inl rfl)); have n1_ := Aside0.mk (hb); have n2_ := Aside0.mk (hi); clear HK; clear HB; clear HI0; have HK := n0_; have HB := n1_; have HI0 := n2_; clear n0_ n1_ n2_; (try clear hb); (try clear hb2); (try clear hk); (try clear hi); (try simp only [errW_none, errW_some]); have BKp0 : Aside0 (w47.heap[g]? = some (.cells #[.string s0_0, .int .i64 s0_1, errW s0_2, .bool s0_3] 56 (0, 0))) := ⟨by obtain ⟨hb_, _⟩ := HI0.out; exact hb_⟩))
        have n0_ := Aside0.mk (blk_drew BKp0.out)
        have n1_ := Aside0.mk (IsS56.drew HI0.out)
        have n2_ := Aside0.mk (keep_drew HK.out)
        have n3_ := Aside0.mk (below_drew1 HB.out)
        clear BKp0
        clear HI0
        clear HK
        clear HB
        have BKp0 := n0_
        have HI0 := n1_
        have HK := n2_
        have HB := n3_
        clear n0_ n1_ n2_ n3_
        refine start_ (n := 15) (S := fun w' => w'.cell? ⟨g, 0, none⟩ = some (.string s0_0) ∧ w'.cell? ⟨g, 1, none⟩ = some (.int .i64 s0_1) ∧ w'.cell? ⟨g, 2, none⟩ = some (errW s0_2) ∧ w'.cell? ⟨g, 3, none⟩ = some (.bool s0_3)) (ds := []) #[false, false, false, false, false, false, false, false, false, false, false, false, false, false, false] (by kernel_rfl) rfl rfl ⟨(blk_cell BKp0.out 0).trans rfl, (blk_cell BKp0.out 1).trans rfl, (blk_cell BKp0.out 2).trans rfl, (blk_cell BKp0.out 3).trans rfl⟩ (fun hHeld => ?_); refine with_tabW strict_Reader_Serial.tab3 strict_Reader_Serial.bits3 (fun HT_ HW_ => ?_)
        generalize w47.drew = w48 at BKp0 HI0 HK HB hHeld ⊢
        refine pure_ (i := 0) (N := some 9) (v := ?_) (a' := ?_) #[true, false, false, false, false, false, false, false, false, false, false, false, false, false, false] rfl rfl (any_of HT_.out (by kernel_rfl)) (fun _ _ _ h => h) (Or.inl ⟨by rfl, ?_⟩) ?_ ?_
        rotate_left
        · intro w'
          go_simp
          with_reducible rfl
        rotate_left
        · simp only [Act.put, List.setIfInBounds_toArray, List.set_cons_zero, List.set_cons_succ, i64_w, i32_w]
          rfl
        refine pure_ (i := 1) (N := some 10) (v := ?_) (a' := ?_) #[true, true, false, false, false, false, false, false, false, false, false, false, false, false, false] rfl rfl (any_of HT_.out (by kernel_rfl)) (fun _ _ _ h => h) (Or.inl ⟨by rfl, ?_⟩) ?_ ?_
        rotate_left
        · intro w'
          go_simp
          with_reducible rfl
        rotate_left
        · simp only [Act.put, List.setIfInBounds_toArray, List.set_cons_zero, List.set_cons_succ, i64_w, i32_w]
          rfl
        refine pure_ (i := 2) (N := some 11) (v := ?_) (a' := ?_) #[true, true, true, false, false, false, false, false, false, false, false, false, false, false, false] rfl rfl (any_of HT_.out (by kernel_rfl)) (fun _ _ _ h => h) (Or.inl ⟨by rfl, ?_⟩) ?_ ?_
        rotate_left
        · intro w'
          go_simp
          with_reducible rfl
        rotate_left
        · simp only [Act.put, List.setIfInBounds_toArray, List.set_cons_zero, List.set_cons_succ, i64_w, i32_w]
          rfl
        refine pure_ (i := 4) (N := some 13) (v := ?_) (a' := ?_) #[true, true, true, false, true, false, false, false, false, false, false, false, false, false, false] rfl rfl (any_of HT_.out (by kernel_rfl)) (fun _ _ _ h => h) (Or.inl ⟨by rfl, ?_⟩) ?_ ?_
        rotate_left
        · intro w'
          go_simp
          with_reducible rfl
        rotate_left
        · simp only [Act.put, List.setIfInBounds_toArray, List.set_cons_zero, List.set_cons_succ, i64_w, i32_w]
          rfl
        refine pure_ (i := 5) (N := some 14) (v := ?_) (a' := ?_) #[true, true, true, false, true, true, false, false, false, false, false, false, false, false, false] rfl rfl (any_of HT_.out (by kernel_rfl)) (fun _ _ _ h => h) (Or.inl ⟨by rfl, ?_⟩) ?_ ?_
        rotate_left
        · intro w'
          go_simp
          with_reducible rfl
        rotate_left
        · simp only [Act.put, List.setIfInBounds_toArray, List.set_cons_zero, List.set_cons_succ, i64_w, i32_w]
          rfl
        refine pure_ (i := 6) (N := some 15) (v := ?_) (a' := ?_) #[true, true, true, false, true, true, true, false, false, false, false, false, false, false, false] rfl rfl (any_of HT_.out (by kernel_rfl)) (fun _ _ _ h => h) (Or.inl ⟨by rfl, ?_⟩) ?_ ?_
        rotate_left
        · intro w'
          go_simp
          with_reducible rfl
        rotate_left
        · simp only [Act.put, List.setIfInBounds_toArray, List.set_cons_zero, List.set_cons_succ, i64_w, i32_w]
          rfl
        refine take_ (i := 3) (N := some 12) (v := ?_) (a' := ?_) #[true, true, true, true, true, true, true, false, false, false, false, false, false, false, false] rfl rfl (take_ofW HT_.out HW_.out (by kernel_rfl)) (fun _ _ _ h => h) (Or.inl ⟨by rfl, ?_⟩) hHeld ?_ ?_
        rotate_left
        · rintro w' ⟨s0, s1, s2, s3⟩
          go_simp
          with_reducible rfl
        rotate_left
        · simp only [Act.put, List.setIfInBounds_toArray, List.set_cons_zero, List.set_cons_succ, i64_w, i32_w]
          rfl
        refine take_ (i := 7) (N := some 16) (v := ?_) (a' := ?_) #[true, true, true, true, true, true, true, true, false, false, false, false, false, false, false] rfl rfl (take_ofW HT_.out HW_.out (by kernel_rfl)) (fun _ _ _ h => h) (Or.inl ⟨by rfl, ?_⟩) hHeld ?_ ?_
        rotate_left
        · rintro w' ⟨s0, s1, s2, s3⟩
          go_simp
          with_reducible rfl
        rotate_left
        · simp only [Act.put, List.setIfInBounds_toArray, List.set_cons_zero, List.set_cons_succ, i64_w, i32_w]
          rfl
        refine join_ (σ := Nat) 2 #[true, true, true, true, true, true, true, true, true, true, true, true, true, false, false] (fun s_ => [(17, .tuple #[.agg #[.string t469, .int .i64 t470], .int .i64 t471]), (3, .pointer (some ⟨s_, 0, none⟩)), (8, .tuple #[.agg #[.string t469, .int .i64 t470], .int .i64 t471]), (18, .agg #[.string t469, .int .i64 t470]), (19, .int .i64 t471)]) (fun s_ w' => (w'.cell? ⟨g, 0, none⟩ = some (.string s0_0) ∧ w'.cell? ⟨g, 1, none⟩ = some (.int .i64 s0_1) ∧ w'.cell? ⟨g, 2, none⟩ = some (errW s0_2) ∧ w'.cell? ⟨g, 3, none⟩ = some (.bool s0_3)) ∧ (w'.heap[s_]? = some (.cells #[.string (⟨#[]⟩ : ByteArray), .int .i64 0] 207 (0, 0))) ∧ (w'.heap[g]? = some (.cells #[.string s0_0, .int .i64 s0_1, errW s0_2, .bool s0_3] 56 (0, 0))) ∧ (w.heap.size ≤ s_) ∧ (w0.heap.size ≤ s_) ∧ (g ≠ s_) ∧ (s_ ≠ g) ∧ (IsS56 w0 w' g s0_0 s0_1 s0_2 s0_3) ∧ (KeepBut w w' g none) ∧ (Below w0.heap.size w0 w')) ?_ ?_
        rotate_left
        · intro hCont
          refine two_ (i := 8) (j := 12) (Ni := some 17) (Nj := some 3) #[true, true, true, true, true, true, true, true, true, false, false, false, false, false, false] #[true, true, true, true, true, true, true, true, false, false, false, false, true, false, false] rfl rfl rfl rfl (two_of HT_.out (by kernel_rfl)) (by decide) (by decide) (fun K hK => ?_) (fun K hK => ?_)
          · skip
            refine goes_ Try.func136 (by kernel_rfl) rfl #[.string s0_0, .int .i64 s0_1, .int .i64 16] (by rfl) rfl rfl (by (try simp only [List.map_toArray, List.map_cons, List.map_nil]); first | done | rfl | (simp only [List.length_drop, List.length_take]; rfl)) ?_
            with_reducible refine (octet_Take.calls k s0_0 s0_1 16 t469 t470 t471 _ A4.out).mono ?_
            rintro e w49 ⟨rfl, hb⟩
            refine ⟨_, rfl, ?_⟩
            have n0_ := Aside0.mk (IsS56.below (by repeat (first | (with_reducible first | exact HI0.out | apply IsS56.alloc | apply IsS56.drewN | apply IsS56.drew | apply IsS56.set_0 | apply IsS56.set_1 | apply IsS56.set_2 | apply IsS56.set_3 | apply IsS56.sete_2 | with_unfolding_all rfl | refine IsS56.far ?_ NB0_0.out _) | exact HI0.out)) hb)
            have n1_ := Aside0.mk (blk_below (g := g) (o := .cells #[.string s0_0, .int .i64 s0_1, errW s0_2, .bool s0_3] 56 (0, 0)) (by (with_reducible repeat (first | refine blk_drewN ?_ _ | refine blk_drew ?_ | refine blk_alloc ?_ _)); exact BKp0.out) hb)
            have n2_ := Aside0.mk (KeepBut.trans (by repeat (first | (with_reducible first | exact HK.out | apply KeepBut.set_ | apply keep_drewN | apply keep_drew | apply keep_alloc | refine keep_far ?_ GW0.out _) | exact HK.out)) (KeepBut.of_below hb g none) (.inl rfl))
            have n3_ := Aside0.mk (below_step (by repeat (first | (with_reducible first | exact HB.out | apply below_alloc | apply pw_below_drewN | apply below_drew1 | refine below_set ?_ (IsS56.ge HI0.out) | refine below_set ?_ GE0.out) | exact HB.out)) hb)
            clear HI0
            clear BKp0
            clear HK
            clear HB
            have HI0 := n0_
            have BKp0 := n1_
            have HK := n2_
            have HB := n3_
            clear n0_ n1_ n2_ n3_
            (try clear hb)
            (try clear hb2)
            (try clear hk)
            (try clear hi)
            refine hK.out _ _ ⟨(blk_cell BKp0.out 0).trans rfl, (blk_cell BKp0.out 1).trans rfl, (blk_cell BKp0.out 2).trans rfl, (blk_cell BKp0.out 3).trans rfl⟩ (fun hHeld => ?_)
            clear hK K
            refine norm_ (a' := ?_) ?_ ?_
            rotate_left
            · show Act.put _ (some 17) _ = _
              simp only [Act.put, List.setIfInBounds_toArray, List.set_cons_zero, List.set_cons_succ, i64_w, i32_w]
              rfl
            refine pure_ (i := 9) (N := some 8) (v := ?_) (a' := ?_) #[true, true, true, true, true, true, true, true, true, true, false, false, false, false, false] rfl rfl (any_of HT_.out (by kernel_rfl)) (fun _ _ _ h => h) (Or.inl ⟨by rfl, ?_⟩) ?_ ?_
            rotate_left
            · intro w'
              go_simp
              with_reducible rfl
            rotate_left
            · simp only [Act.put, List.setIfInBounds_toArray, List.set_cons_zero, List.set_cons_succ, i64_w, i32_w]
              rfl
            refine pure_ (i := 10) (N := some 18) (v := ?_) (a' := ?_) #[true, true, true, true, true, true, true, true, true, true, true, false, false, false, false] rfl rfl (any_of HT_.out (by kernel_rfl)) (fun _ _ _ h => h) (Or.inl ⟨by rfl, ?_⟩) ?_ ?_
            rotate_left
            · intro w'
              go_simp
              with_reducible rfl
            rotate_left
            · simp only [Act.put, List.setIfInBounds_toArray, List.set_cons_zero, List.set_cons_succ, i64_w, i32_w]
              rfl
            refine pure_ (i := 11) (N := some 19) (v := ?_) (a' := ?_) #[true, true, true, true, true, true, true, true, true, true, true, true, false, false, false] rfl rfl (any_of HT_.out (by kernel_rfl)) (fun _ _ _ h => h) (Or.inl ⟨by rfl, ?_⟩) ?_ ?_
            rotate_left
            · intro w'
              go_simp
              with_reducible rfl
            rotate_left
            · simp only [Act.put, List.setIfInBounds_toArray, List.set_cons_zero, List.set_cons_succ, i64_w, i32_w]
              rfl
            refine one_ (i := 12) (N := some 3) #[true, true, true, true, true, true, true, true, true, true, true, true, true, false, false] rfl rfl (one_of HT_.out (by kernel_rfl)) (by decide) (fun K hK => ?_)
            refine box_step ?hg (N := 3) ?hd (cs := #[.string (⟨#[]⟩ : ByteArray), .int .i64 0]) (t := 207) ?hr ?_; (case hd => rfl); (case hg => rfl); (case hr => first | (go_simp; done) | (go_simp; rfl))
            intro gb472 hg w50 hbox hb
            have n0_ := Aside0.mk (IsS56.below (by repeat (first | (with_reducible first | exact HI0.out | apply IsS56.alloc | apply IsS56.drewN | apply IsS56.drew | apply IsS56.set_0 | apply IsS56.set_1 | apply IsS56.set_2 | apply IsS56.set_3 | apply IsS56.sete_2 | with_unfolding_all rfl | refine IsS56.far ?_ NB0_0.out _) | exact HI0.out)) hb)
            have n1_ := Aside0.mk (blk_below (g := g) (o := .cells #[.string s0_0, .int .i64 s0_1, errW s0_2, .bool s0_3] 56 (0, 0)) (by (with_reducible repeat (first | refine blk_drewN ?_ _ | refine blk_drew ?_ | refine blk_alloc ?_ _)); exact BKp0.out) hb)
            have n2_ := Aside0.mk (KeepBut.trans (by repeat (first | (with_reducible first | exact HK.out | apply KeepBut.set_ | apply keep_drewN | apply keep_drew | apply keep_alloc | refine keep_far ?_ GW0.out _) | exact HK.out)) (KeepBut.of_below hb g none) (.inl rfl))
            have n3_ := Aside0.mk (below_step (by repeat (first | (with_reducible first | exact HB.out | apply below_alloc | apply pw_below_drewN | apply below_drew1 | refine below_set ?_ (IsS56.ge HI0.out) | refine below_set ?_ GE0.out) | exact HB.out)) hb)
            have n4_ := Aside0.mk (hbox)
            have n5_ := Aside0.mk ((by rw [hg]; exact (keep_size (w := w) (g := g) (row := none) (by repeat (first | (with_reducible first | exact HK.out | apply KeepBut.set_ | apply keep_drewN | apply keep_drew | apply keep_alloc | refine keep_far ?_ GW0.out _) | exact HK.out))) : w.heap.size ≤ gb472))
            have n6_ := Aside0.mk ((Nat.le_trans HW0.out (by rw [hg]; exact (keep_size (w := w) (g := g) (row := none) (by repeat (first | (with_reducible first | exact HK.out | apply KeepBut.set_ | apply keep_drewN | apply keep_drew | apply keep_alloc | refine keep_far ?_ GW0.out _) | exact HK.out))) : w.heap.size ≤ gb472) : w0.heap.size ≤ gb472))
            have n7_ := Aside0.mk ((by rw [hg]; exact Nat.ne_of_lt (blk_lt (g := g) (o := .cells #[.string s0_0, .int .i64 s0_1, errW s0_2, .bool s0_3] 56 (0, 0)) (by (with_reducible repeat (first | refine blk_drewN ?_ _ | refine blk_drew ?_ | refine blk_alloc ?_ _)); exact BKp0.out)) : g ≠ gb472))
            have n8_ := Aside0.mk ((by rw [hg]; exact Nat.ne_of_gt (blk_lt (g := g) (o := .cells #[.string s0_0, .int .i64 s0_1, errW s0_2, .bool s0_3] 56 (0, 0)) (by (with_reducible repeat (first | refine blk_drewN ?_ _ | refine blk_drew ?_ | refine blk_alloc ?_ _)); exact BKp0.out)) : gb472 ≠ g))
            have n9_ := Aside0.mk ((by rw [hg]; exact Nat.ne_of_lt (IsS56.lt (show IsS56 w0 _ g s0_0 s0_1 s0_2 s0_3 from by repeat (first | (with_reducible first | exact HI0.out | apply IsS56.alloc | apply IsS56.drewN | apply IsS56.drew | apply IsS56.set_0 | apply IsS56.set_1 | apply IsS56.set_2 | apply IsS56.set_3 | apply IsS56.sete_2 | with_unfolding_all rfl | refine IsS56.far ?_ NB0_0.out _) | exact HI0.out))) : g ≠ gb472))
            have n10_ := Aside0.mk ((by rw [hg]; exact Nat.ne_of_gt (IsS56.lt (show IsS56 w0 _ g s0_0 s0_1 s0_2 s0_3 from by repeat (first | (with_reducible first | exact HI0.out | apply IsS56.alloc | apply IsS56.drewN | apply IsS56.drew | apply IsS56.set_0 | apply IsS56.set_1 | apply IsS56.set_2 | apply IsS56.set_3 | apply IsS56.sete_2 | with_unfolding_all rfl | refine IsS56.far ?_ NB0_0.out _) | exact HI0.out))) : gb472 ≠ g))
            clear HI0
            clear BKp0
            clear HK
            clear HB
            have HI0 := n0_
            have BKp0 := n1_
            have HK := n2_
            have HB := n3_
            have BK472 := n4_
            have GW472 := n5_
            have GE472 := n6_
            have NB0_472 := n7_
            have NB472_0 := n8_
            have NB0_472 := n9_
            have NB472_0 := n10_
            clear n0_ n1_ n2_ n3_ n4_ n5_ n6_ n7_ n8_ n9_ n10_
            clear hb hbox hg
            refine hK.out _ _ ⟨(blk_cell BKp0.out 0).trans rfl, (blk_cell BKp0.out 1).trans rfl, (blk_cell BKp0.out 2).trans rfl, (blk_cell BKp0.out 3).trans rfl⟩ (fun hHeld => ?_)
            clear hK K
            refine norm_ (a' := ?_) ?_ ?_
            rotate_left
            · show Act.put _ (some 3) _ = _
              simp only [Act.put, List.setIfInBounds_toArray, List.set_cons_zero, List.set_cons_succ, i64_w, i32_w]
              rfl
            exact norm_ (by simp only [putAll, Act.put, List.setIfInBounds_toArray, List.set_cons_zero, List.set_cons_succ]) (hCont (gb472) _ ⟨hHeld, (by (with_reducible repeat (first | refine blk_drewN ?_ _ | refine blk_drew ?_ | refine blk_alloc ?_ _)); exact BK472.out), (by (with_reducible repeat (first | refine blk_drewN ?_ _ | refine blk_drew ?_ | refine blk_alloc ?_ _)); exact BKp0.out), GW472.out, GE472.out, NB0_472.out, NB472_0.out, (by repeat (first | (with_reducible first | exact HI0.out | apply IsS56.alloc | apply IsS56.drewN | apply IsS56.drew | apply IsS56.set_0 | apply IsS56.set_1 | apply IsS56.set_2 | apply IsS56.set_3 | apply IsS56.sete_2 | with_unfolding_all rfl | refine IsS56.far ?_ NB0_0.out _ | refine IsS56.far ?_ NB0_472.out _) | exact HI0.out)), (by repeat (first | (with_reducible first | exact HK.out | apply KeepBut.set_ | apply keep_drewN | apply keep_drew | apply keep_alloc | refine keep_far ?_ GW0.out _ | refine keep_far ?_ GW472.out _) | exact HK.out)), (by repeat (first | (with_reducible first | exact HB.out | apply below_alloc | apply pw_below_drewN | apply below_drew1 | refine below_set ?_ (IsS56.ge HI0.out) | refine below_set ?_ GE0.out | refine below_set ?_ GE472.out) | exact HB.out))⟩)
          · skip
            refine box_step ?hg (N := 3) ?hd (cs := #[.string (⟨#[]⟩ : ByteArray), .int .i64 0]) (t := 207) ?hr ?_; (case hd => rfl); (case hg => rfl); (case hr => first | (go_simp; done) | (go_simp; rfl))
            intro gb472 hg w49 hbox hb
            have n0_ := Aside0.mk (IsS56.below (by repeat (first | (with_reducible first | exact HI0.out | apply IsS56.alloc | apply IsS56.drewN | apply IsS56.drew | apply IsS56.set_0 | apply IsS56.set_1 | apply IsS56.set_2 | apply IsS56.set_3 | apply IsS56.sete_2 | with_unfolding_all rfl | refine IsS56.far ?_ NB0_0.out _) | exact HI0.out)) hb)
            have n1_ := Aside0.mk (blk_below (g := g) (o := .cells #[.string s0_0, .int .i64 s0_1, errW s0_2, .bool s0_3] 56 (0, 0)) (by (with_reducible repeat (first | refine blk_drewN ?_ _ | refine blk_drew ?_ | refine blk_alloc ?_ _)); exact BKp0.out) hb)
            have n2_ := Aside0.mk (KeepBut.trans (by repeat (first | (with_reducible first | exact HK.out | apply KeepBut.set_ | apply keep_drewN | apply keep_drew | apply keep_alloc | refine keep_far ?_ GW0.out _) | exact HK.out)) (KeepBut.of_below hb g none) (.inl rfl))
            have n3_ := Aside0.mk (below_step (by repeat (first | (with_reducible first | exact HB.out | apply below_alloc | apply pw_below_drewN | apply below_drew1 | refine below_set ?_ (IsS56.ge HI0.out) | refine below_set ?_ GE0.out) | exact HB.out)) hb)
            have n4_ := Aside0.mk (hbox)
            have n5_ := Aside0.mk ((by rw [hg]; exact (keep_size (w := w) (g := g) (row := none) (by repeat (first | (with_reducible first | exact HK.out | apply KeepBut.set_ | apply keep_drewN | apply keep_drew | apply keep_alloc | refine keep_far ?_ GW0.out _) | exact HK.out))) : w.heap.size ≤ gb472))
            have n6_ := Aside0.mk ((Nat.le_trans HW0.out (by rw [hg]; exact (keep_size (w := w) (g := g) (row := none) (by repeat (first | (with_reducible first | exact HK.out | apply KeepBut.set_ | apply keep_drewN | apply keep_drew | apply keep_alloc | refine keep_far ?_ GW0.out _) | exact HK.out))) : w.heap.size ≤ gb472) : w0.heap.size ≤ gb472))
            have n7_ := Aside0.mk ((by rw [hg]; exact Nat.ne_of_lt (blk_lt (g := g) (o := .cells #[.string s0_0, .int .i64 s0_1, errW s0_2, .bool s0_3] 56 (0, 0)) (by (with_reducible repeat (first | refine blk_drewN ?_ _ | refine blk_drew ?_ | refine blk_alloc ?_ _)); exact BKp0.out)) : g ≠ gb472))
            have n8_ := Aside0.mk ((by rw [hg]; exact Nat.ne_of_gt (blk_lt (g := g) (o := .cells #[.string s0_0, .int .i64 s0_1, errW s0_2, .bool s0_3] 56 (0, 0)) (by (with_reducible repeat (first | refine blk_drewN ?_ _ | refine blk_drew ?_ | refine blk_alloc ?_ _)); exact BKp0.out)) : gb472 ≠ g))
            have n9_ := Aside0.mk ((by rw [hg]; exact Nat.ne_of_lt (IsS56.lt (show IsS56 w0 _ g s0_0 s0_1 s0_2 s0_3 from by repeat (first | (with_reducible first | exact HI0.out | apply IsS56.alloc | apply IsS56.drewN | apply IsS56.drew | apply IsS56.set_0 | apply IsS56.set_1 | apply IsS56.set_2 | apply IsS56.set_3 | apply IsS56.sete_2 | with_unfolding_all rfl | refine IsS56.far ?_ NB0_0.out _) | exact HI0.out))) : g ≠ gb472))
            have n10_ := Aside0.mk ((by rw [hg]; exact Nat.ne_of_gt (IsS56.lt (show IsS56 w0 _ g s0_0 s0_1 s0_2 s0_3 from by repeat (first | (with_reducible first | exact HI0.out | apply IsS56.alloc | apply IsS56.drewN | apply IsS56.drew | apply IsS56.set_0 | apply IsS56.set_1 | apply IsS56.set_2 | apply IsS56.set_3 | apply IsS56.sete_2 | with_unfolding_all rfl | refine IsS56.far ?_ NB0_0.out _) | exact HI0.out))) : gb472 ≠ g))
            clear HI0
            clear BKp0
            clear HK
            clear HB
            have HI0 := n0_
            have BKp0 := n1_
            have HK := n2_
            have HB := n3_
            have BK472 := n4_
            have GW472 := n5_
            have GE472 := n6_
            have NB0_472 := n7_
            have NB472_0 := n8_
            have NB0_472 := n9_
            have NB472_0 := n10_
            clear n0_ n1_ n2_ n3_ n4_ n5_ n6_ n7_ n8_ n9_ n10_
            clear hb hbox hg
            refine hK.out _ _ ⟨(blk_cell BKp0.out 0).trans rfl, (blk_cell BKp0.out 1).trans rfl, (blk_cell BKp0.out 2).trans rfl, (blk_cell BKp0.out 3).trans rfl⟩ (fun hHeld => ?_)
            clear hK K
            refine norm_ (a' := ?_) ?_ ?_
            rotate_left
            · show Act.put _ (some 3) _ = _
              simp only [Act.put, List.setIfInBounds_toArray, List.set_cons_zero, List.set_cons_succ, i64_w, i32_w]
              rfl
            refine one_ (i := 8) (N := some 17) #[true, true, true, true, true, true, true, true, true, false, false, false, true, false, false] rfl rfl (one_of HT_.out (by kernel_rfl)) (by decide) (fun K hK => ?_)
            refine goes_ Try.func136 (by kernel_rfl) rfl #[.string s0_0, .int .i64 s0_1, .int .i64 16] (by rfl) rfl rfl (by (try simp only [List.map_toArray, List.map_cons, List.map_nil]); first | done | rfl | (simp only [List.length_drop, List.length_take]; rfl)) ?_
            with_reducible refine (octet_Take.calls k s0_0 s0_1 16 t469 t470 t471 _ A4.out).mono ?_
            rintro e w50 ⟨rfl, hb⟩
            refine ⟨_, rfl, ?_⟩
            have n0_ := Aside0.mk (IsS56.below (by repeat (first | (with_reducible first | exact HI0.out | apply IsS56.alloc | apply IsS56.drewN | apply IsS56.drew | apply IsS56.set_0 | apply IsS56.set_1 | apply IsS56.set_2 | apply IsS56.set_3 | apply IsS56.sete_2 | with_unfolding_all rfl | refine IsS56.far ?_ NB0_0.out _ | refine IsS56.far ?_ NB0_472.out _) | exact HI0.out)) hb)
            have n1_ := Aside0.mk (blk_below (g := g) (o := .cells #[.string s0_0, .int .i64 s0_1, errW s0_2, .bool s0_3] 56 (0, 0)) (by (with_reducible repeat (first | refine blk_drewN ?_ _ | refine blk_drew ?_ | refine blk_alloc ?_ _)); exact BKp0.out) hb)
            have n2_ := Aside0.mk (blk_below (g := gb472) (o := .cells #[.string (⟨#[]⟩ : ByteArray), .int .i64 0] 207 (0, 0)) (by (with_reducible repeat (first | refine blk_drewN ?_ _ | refine blk_drew ?_ | refine blk_alloc ?_ _)); exact BK472.out) hb)
            have n3_ := Aside0.mk (KeepBut.trans (by repeat (first | (with_reducible first | exact HK.out | apply KeepBut.set_ | apply keep_drewN | apply keep_drew | apply keep_alloc | refine keep_far ?_ GW0.out _ | refine keep_far ?_ GW472.out _) | exact HK.out)) (KeepBut.of_below hb g none) (.inl rfl))
            have n4_ := Aside0.mk (below_step (by repeat (first | (with_reducible first | exact HB.out | apply below_alloc | apply pw_below_drewN | apply below_drew1 | refine below_set ?_ (IsS56.ge HI0.out) | refine below_set ?_ GE0.out | refine below_set ?_ GE472.out) | exact HB.out)) hb)
            clear HI0
            clear BKp0
            clear BK472
            clear HK
            clear HB
            have HI0 := n0_
            have BKp0 := n1_
            have BK472 := n2_
            have HK := n3_
            have HB := n4_
            clear n0_ n1_ n2_ n3_ n4_
            (try clear hb)
            (try clear hb2)
            (try clear hk)
            (try clear hi)
            refine hK.out _ _ ⟨(blk_cell BKp0.out 0).trans rfl, (blk_cell BKp0.out 1).trans rfl, (blk_cell BKp0.out 2).trans rfl, (blk_cell BKp0.out 3).trans rfl⟩ (fun hHeld => ?_)
            clear hK K
            refine norm_ (a' := ?_) ?_ ?_
            rotate_left
            · show Act.put _ (some 17) _ = _
              simp only [Act.put, List.setIfInBounds_toArray, List.set_cons_zero, List.set_cons_succ, i64_w, i32_w]
              rfl
            refine pure_ (i := 9) (N := some 8) (v := ?_) (a' := ?_) #[true, true, true, true, true, true, true, true, true, true, false, false, true, false, false] rfl rfl (any_of HT_.out (by kernel_rfl)) (fun _ _ _ h => h) (Or.inl ⟨by rfl, ?_⟩) ?_ ?_
            rotate_left
            · intro w'
              go_simp
              with_reducible rfl
            rotate_left
            · simp only [Act.put, List.setIfInBounds_toArray, List.set_cons_zero, List.set_cons_succ, i64_w, i32_w]
              rfl
            refine pure_ (i := 10) (N := some 18) (v := ?_) (a' := ?_) #[true, true, true, true, true, true, true, true, true, true, true, false, true, false, false] rfl rfl (any_of HT_.out (by kernel_rfl)) (fun _ _ _ h => h) (Or.inl ⟨by rfl, ?_⟩) ?_ ?_
            rotate_left
            · intro w'
              go_simp
              with_reducible rfl
            rotate_left
            · simp only [Act.put, List.setIfInBounds_toArray, List.set_cons_zero, List.set_cons_succ, i64_w, i32_w]
              rfl
            refine pure_ (i := 11) (N := some 19) (v := ?_) (a' := ?_) #[true, true, true, true, true, true, true, true, true, true, true, true, true, false, false] rfl rfl (any_of HT_.out (by kernel_rfl)) (fun _ _ _ h => h) (Or.inl ⟨by rfl, ?_⟩) ?_ ?_
            rotate_left
            · intro w'
              go_simp
              with_reducible rfl
            rotate_left
            · simp only [Act.put, List.setIfInBounds_toArray, List.set_cons_zero, List.set_cons_succ, i64_w, i32_w]
              rfl
            exact norm_ (by simp only [putAll, Act.put, List.setIfInBounds_toArray, List.set_cons_zero, List.set_cons_succ]) (hCont (gb472) _ ⟨hHeld, (by (with_reducible repeat (first | refine blk_drewN ?_ _ | refine blk_drew ?_ | refine blk_alloc ?_ _)); exact BK472.out), (by (with_reducible repeat (first | refine blk_drewN ?_ _ | refine blk_drew ?_ | refine blk_alloc ?_ _)); exact BKp0.out), GW472.out, GE472.out, NB0_472.out, NB472_0.out, (by repeat (first | (with_reducible first | exact HI0.out | apply IsS56.alloc | apply IsS56.drewN | apply IsS56.drew | apply IsS56.set_0 | apply IsS56.set_1 | apply IsS56.set_2 | apply IsS56.set_3 | apply IsS56.sete_2 | with_unfolding_all rfl | refine IsS56.far ?_ NB0_0.out _ | refine IsS56.far ?_ NB0_472.out _) | exact HI0.out)), (by repeat (first | (with_reducible first | exact HK.out | apply KeepBut.set_ | apply keep_drewN | apply keep_drew | apply keep_alloc | refine keep_far ?_ GW0.out _ | refine keep_far ?_ GW472.out _) | exact HK.out)), (by repeat (first | (with_reducible first | exact HB.out | apply below_alloc | apply pw_below_drewN | apply below_drew1 | refine below_set ?_ (IsS56.ge HI0.out) | refine below_set ?_ GE0.out | refine below_set ?_ GE472.out) | exact HB.out))⟩)
        rintro gb472 w51 ⟨hS_, h0_, h1_, h2_, h3_, h4_, h5_, h6_, h7_, h8_⟩
        have n0_ : Aside0 (w51.heap[gb472]? = some (.cells #[.string (⟨#[]⟩ : ByteArray), .int .i64 0] 207 (0, 0))) := ⟨h0_⟩
        have n1_ : Aside0 (w51.heap[g]? = some (.cells #[.string s0_0, .int .i64 s0_1, errW s0_2, .bool s0_3] 56 (0, 0))) := ⟨h1_⟩
        have n2_ : Aside0 (w.heap.size ≤ gb472) := ⟨h2_⟩
        have n3_ : Aside0 (w0.heap.size ≤ gb472) := ⟨h3_⟩
        have n4_ : Aside0 (g ≠ gb472) := ⟨h4_⟩
        have n5_ : Aside0 (gb472 ≠ g) := ⟨h5_⟩
        have n6_ : Aside0 (IsS56 w0 w51 g s0_0 s0_1 s0_2 s0_3) := ⟨h6_⟩
        have n7_ : Aside0 (KeepBut w w51 g none) := ⟨h7_⟩
        have n8_ : Aside0 (Below w0.heap.size w0 w51) := ⟨h8_⟩
        clear BKp0
        clear HI0
        clear HK
        clear HB
        clear h0_ h1_ h2_ h3_ h4_ h5_ h6_ h7_ h8_
        have BK472 := n0_
        have BKp0 := n1_
        have GW472 := n2_
        have GE472 := n3_
        have NB0_472 := n4_
        have NB472_0 := n5_
        have HI0 := n6_
        have HK := n7_
        have HB := n8_
        clear n0_ n1_ n2_ n3_ n4_ n5_ n6_ n7_ n8_
        have hHeld : w51.cell? ⟨g, 0, none⟩ = some (.string s0_0) ∧ w51.cell? ⟨g, 1, none⟩ = some (.int .i64 s0_1) ∧ w51.cell? ⟨g, 2, none⟩ = some (errW s0_2) ∧ w51.cell? ⟨g, 3, none⟩ = some (.bool s0_3) := hS_
        refine norm_ (a' := ?_) ?_ ?_
        rotate_left
        · simp only [putAll, Act.put, List.setIfInBounds_toArray, List.set_cons_zero, List.set_cons_succ]
          rfl
        refine one_ (i := 13) (N := none) #[true, true, true, true, true, true, true, true, true, true, true, true, true, true, false] rfl rfl (one_of HT_.out (by kernel_rfl)) (by decide) (fun K hK => ?_)
        have hs52 : w51.cell? ⟨gb472, 0, none⟩ = some (.string (⟨#[]⟩ : ByteArray)) := (blk_cell BK472.out 0).trans rfl
        have hfs52 := blk_frozen BK472.out 0
        have hns52_0 := NB0_472.out
        have hms52_0 := NB472_0.out
        have hs53 : w51.cell? ⟨gb472, 1, none⟩ = some (.int .i64 0) := (blk_cell BK472.out 1).trans rfl
        have hfs53 := blk_frozen BK472.out 1
        have hns53_0 := NB0_472.out
        have hms53_0 := NB472_0.out
        refine skip_ (w1 := ?_) (by rfl) rfl ?_ ?_
        rotate_left
        · go_simp
          rfl
        refine hK.out _ _ ⟨((cell_far (p := ⟨gb472, _, none⟩) NB0_472.out _).trans (((cell_far (p := ⟨gb472, _, none⟩) NB0_472.out _).trans (hHeld.1)))), ((cell_far (p := ⟨gb472, _, none⟩) NB0_472.out _).trans (((cell_far (p := ⟨gb472, _, none⟩) NB0_472.out _).trans (hHeld.2.1)))), ((cell_far (p := ⟨gb472, _, none⟩) NB0_472.out _).trans (((cell_far (p := ⟨gb472, _, none⟩) NB0_472.out _).trans (hHeld.2.2.1)))), ((cell_far (p := ⟨gb472, _, none⟩) NB0_472.out _).trans (((cell_far (p := ⟨gb472, _, none⟩) NB0_472.out _).trans (hHeld.2.2.2))))⟩ (fun hHeld => ?_)
        clear hK K
        refine pure_ (i := 14) (N := some 4) (v := ?_) (a' := ?_) #[true, true, true, true, true, true, true, true, true, true, true, true, true, true, true] rfl rfl (any_of HT_.out (by kernel_rfl)) (fun _ _ _ h => h) (Or.inl ⟨by rfl, ?_⟩) ?_ ?_
        rotate_left
        · intro w'
          go_simp
          with_reducible rfl
        rotate_left
        · simp only [Act.put, List.setIfInBounds_toArray, List.set_cons_zero, List.set_cons_succ, i64_w, i32_w]
          rfl
        refine done_ (done_of HT_.out (by kernel_rfl)) ?_
        clear BKp0
        have hnb54 := NB472_0.out
        have hnc54 := NB0_472.out
        have hcz55_0 : w51.cell? ⟨gb472, 0, none⟩ = some (.string (⟨#[]⟩ : ByteArray)) := (blk_cell BK472.out 0).trans rfl
        have hcz55_1 : w51.cell? ⟨gb472, 1, none⟩ = some (.int .i64 0) := (blk_cell BK472.out 1).trans rfl
        have hfz55_0 := blk_frozen BK472.out 0
        have hfz55_1 := blk_frozen BK472.out 1
        try go_wp2_with (first | ((with_reducible refine gate_callee (f := 135) rfl ?_); refine goesL_ (some 29) rfl rfl Try.func135 (by kernel_rfl) rfl #[.pointer (some ⟨g, 0, none⟩), .int .i64 t470, .int .i64 t471] rfl (by (try simp only [List.map_toArray, List.map_cons, List.map_nil]); first | done | rfl | (simp only [List.length_drop, List.length_take]; rfl)) ?_; (with_reducible refine (strict_Reader_done.calls g s0_0 s0_1 s0_2 s0_3 t470 t471 false t480 t481 t482 t483 w0 _ ?side1 ?side2 A34.out).mono ?_); (case side1 => repeat (first | (with_reducible first | exact HI0.out | apply IsS56.alloc | apply IsS56.drewN | apply IsS56.drew | apply IsS56.set_0 | apply IsS56.set_1 | apply IsS56.set_2 | apply IsS56.set_3 | apply IsS56.sete_2 | with_unfolding_all rfl | refine IsS56.far ?_ NB0_472.out _) | exact HI0.out)); (case side2 => repeat (first | (with_reducible first | exact HB.out | apply below_alloc | apply pw_below_drewN | apply below_drew1 | refine below_set ?_ (IsS56.ge HI0.out) | refine below_set ?_ GE472.out) | exact HB.out)); rintro e w56 ⟨rfl, hi, hb, hk⟩; refine ⟨_, rfl, ?_⟩; have n0_ := Aside0.mk (KeepBut.blk hk (g' := gb472) (o := .cells #[.string t469, .int .i64 t470] 207 (0, 0)) (by (with_reducible repeat (first | refine blk_drewN ?_ _ | refine blk_drew ?_ | refine blk_alloc ?_ _)); refine blk_put (cs := #[.string t469, .int .i64 0]) ?_ 1 _ rfl; (with_reducible repeat (first | refine blk_drewN ?_ _ | refine blk_drew ?_ | refine blk_alloc ?_ _)); refine blk_put (cs := #[.string (⟨#[]⟩ : ByteArray), .int .i64 0]) ?_ 0 _ rfl; (with_reducible repeat (first | refine blk_drewN ?_ _ | refine blk_drew ?_ | refine blk_alloc ?_ _)); exact BK472.out) NB472_0.out (by simp)); have n1_ := Aside0.mk (KeepBut.trans (by repeat (first | (with_reducible first | exact HK.out | apply KeepBut.set_ | apply keep_drewN | apply keep_drew | apply keep_alloc | refine keep_far ?_ GW472.out _) | exact HK.out)) hk (.inl rfl)); have n2_ := Aside0.mk (hb); have n3_ := Aside0.mk (hi); clear BK472; clear HK; clear HB; clear HI0; have BK472 := n0_; have HK := n1_; have HB := n2_; have HI0 := n3_; clear n0_ n1_ n2_ n3_; (try clear hb); (try clear hb2); (try clear hk); (try clear hi); (try simp only [errW_none, errW_some])))
        go_ret
        exact ⟨by first | rfl | (simp [errW_none, errW_some] <;> rfl) | (simp [*, errW_none, errW_some] <;> rfl), by repeat (first | (with_reducible first | exact HI0.out | apply IsS56.alloc | apply IsS56.drewN | apply IsS56.drew | apply IsS56.set_0 | apply IsS56.set_1 | apply IsS56.set_2 | apply IsS56.set_3 | apply IsS56.sete_2 | with_unfolding_all rfl | refine IsS56.far ?_ NB0_472.out _) | exact HI0.out), by repeat (first | (with_reducible first | exact HB.out | apply below_alloc | apply pw_below_drewN | apply below_drew1 | refine below_set ?_ (IsS56.ge HI0.out) | refine below_set ?_ GE472.out) | exact HB.out), by repeat (first | (with_reducible first | exact HK.out | apply KeepBut.set_ | apply keep_drewN | apply keep_drew | apply keep_alloc | refine keep_far ?_ GW472.out _) | exact HK.out)⟩
  · replace c3 := Bool.eq_false_iff.mpr c3
    subst c3
    have H1 : (some ((⟨#[]⟩ : ByteArray), s0_0, s0_1, s0_2, s0_3)) = some (r1, r2, r3, r4, r5) := by first | (rw [if_neg (show ¬ (false = true) by decide)] at H; exact H) | rfl
    clear H
    have H := H1
    clear H1
    simp only [Option.some.injEq, Prod.mk.injEq] at H
    obtain ⟨rfl, rfl, rfl, rfl, rfl⟩ := H
    go_enter Try.func43, Try.ntmps43
    go_wp2_with (first | ((with_reducible refine gate_callee (f := 133) rfl ?_); refine goesL_ (some 6) rfl rfl Try.func133 (by kernel_rfl) rfl #[.pointer (some ⟨g, 0, none⟩)] rfl (by (try simp only [List.map_toArray, List.map_cons, List.map_nil]); first | done | rfl | (simp only [List.length_drop, List.length_take]; rfl)) ?_; (with_reducible refine (strict_Reader_goes.calls g s0_0 s0_1 s0_2 s0_3 false s0_0 s0_1 s0_2 s0_3 w0 _ ?side1 ?side2 A2.out).mono ?_); (case side1 => repeat (first | (with_reducible first | exact HI0.out | apply IsS56.alloc | apply IsS56.drewN | apply IsS56.drew | apply IsS56.set_0 | apply IsS56.set_1 | apply IsS56.set_2 | apply IsS56.set_3 | apply IsS56.sete_2 | with_unfolding_all rfl) | exact HI0.out)); (case side2 => repeat (first | (with_reducible first | exact HB.out | apply below_alloc | apply pw_below_drewN | apply below_drew1 | refine below_set ?_ (IsS56.ge HI0.out)) | exact HB.out)); rintro e w57 ⟨rfl, hi, hb, hk⟩; refine ⟨_, rfl, ?_⟩; have n0_ := Aside0.mk (KeepBut.trans (by repeat (first | (with_reducible first | exact HK.out | apply KeepBut.set_ | apply keep_drewN | apply keep_drew | apply keep_alloc) | exact HK.out)) hk (.inl rfl)); have n1_ := Aside0.mk (hb); have n2_ := Aside0.mk (hi); clear HK; clear HB; clear HI0; have HK := n0_; have HB := n1_; have HI0 := n2_; clear n0_ n1_ n2_; (try clear hb); (try clear hb2); (try clear hk); (try clear hi); (try simp only [errW_none, errW_some])))
    go_ret
    exact ⟨by first | rfl | (simp [errW_none, errW_some] <;> rfl) | (simp [*, errW_none, errW_some] <;> rfl), by repeat (first | (with_reducible first | exact HI0.out | apply IsS56.alloc | apply IsS56.drewN | apply IsS56.drew | apply IsS56.set_0 | apply IsS56.set_1 | apply IsS56.set_2 | apply IsS56.set_3 | apply IsS56.sete_2 | with_unfolding_all rfl) | exact HI0.out), by repeat (first | (with_reducible first | exact HB.out | apply below_alloc | apply pw_below_drewN | apply below_drew1 | refine below_set ?_ (IsS56.ge HI0.out)) | exact HB.out), by repeat (first | (with_reducible first | exact HK.out | apply KeepBut.set_ | apply keep_drewN | apply keep_drew | apply keep_alloc) | exact HK.out)⟩
end Go.Proofs.Ytakkhomjpflkbaa.F
namespace Go.Proofs.Ytakkhomjpflkbaa.F
open Go.RowKit Go.Proofs.YtakkhomjpflkbaaX Go.Proofs.YtakkhomjpflkbaaW.PrintWords Go.Proofs.YtakkhomjpflkbaaW.PrintLast Go.Proofs.YtakkhomjpflkbaaW.PrintMore
attribute [local go_sem] max2_int min2_int max_two min_two max_three min_three max_four min_four   
attribute [local go_sem high] str_geq str_leq str_gtr
set_option linter.unusedVariables false
set_option linter.unusedSimpArgs false
def strict_Why_cn22_3.f  : Option (Int × Int) := some (2, 0)
set_option maxHeartbeats 8000000 in
set_option maxRecDepth 100000 in
theorem strict_Why_cn22_3.calls  (r1 : Int) (r2 : Int) (w : World) (h : strict_Why_cn22_3.f  = some (r1, r2)) :
    Calls Try.prog 38 #[.iface 22 (.int .i64 3)] w fun e w' => e = .returned (.tuple #[.int .i64 r1, .int .i64 r2]) ∧ Below w.heap.size w w' := by
  have hu192 := Try.underlying192
  have hu54 := Try.underlying54
  have htc : ∀ (W : World), (Instr.typeAssert (.iface 22 (.int .i64 3)) 54 192 true).run Try.prog W = .ok (.tuple #[.agg #[.int .i64 0, .int .i64 0], .bool false]) W := fun W => by rfl
  have hta : ∀ (v : Value) (W : World), (Instr.typeAssert (.iface 192 v) 54 192 true).run Try.prog W = .ok (.tuple #[v, .bool true]) W := fun v W => by rfl
  have HB := Aside0.mk (Below.refl w.heap.size w)
  have H : (some (2, 0)) = some (r1, r2) := h
  clear h
  simp only [Option.some.injEq, Prod.mk.injEq] at H
  obtain ⟨rfl, rfl⟩ := H
  go_enter Try.func38, Try.ntmps38
  go_wp2_with (first | ((with_reducible refine gate_dst (N := 4) rfl ?_); refine box_event ?hg (N := 4) ?hd (cs := #[.int .i64 0, .int .i64 0]) (t := 192) ?hr ?_; (case hd => rfl); (case hg => rfl); (case hr => first | (go_simp; done) | (go_simp; rfl)); intro gb491 hg w2 hbox hb; have n0_ := Aside0.mk (below_step (by repeat (first | (with_reducible first | exact HB.out | apply below_alloc | apply pw_below_drewN | apply below_drew1) | exact HB.out)) hb); have n1_ := Aside0.mk (hbox); have n2_ := Aside0.mk ((by rw [hg]; exact (below_size (by repeat (first | (with_reducible first | exact HB.out | apply below_alloc | apply pw_below_drewN | apply below_drew1) | exact HB.out))) : w.heap.size ≤ gb491)); have n3_ := Aside0.mk ((by rw [hg]; exact (below_size (by repeat (first | (with_reducible first | exact HB.out | apply below_alloc | apply pw_below_drewN | apply below_drew1) | exact HB.out))) : w.heap.size ≤ gb491)); clear HB; have HB := n0_; have BK491 := n1_; have GW491 := n2_; have GE491 := n3_; clear n0_ n1_ n2_ n3_; clear hb hbox hg; have hcz3_0 : w2.cell? ⟨gb491, 0, none⟩ = some (.int .i64 0) := (blk_cell BK491.out 0).trans rfl; have hcz3_1 : w2.cell? ⟨gb491, 1, none⟩ = some (.int .i64 0) := (blk_cell BK491.out 1).trans rfl; have hfz3_0 := blk_frozen BK491.out 0; have hfz3_1 := blk_frozen BK491.out 1))
  repeat (go_quiet (first | ((with_reducible refine gate_dst (N := 4) rfl ?_); refine box_event ?hg (N := 4) ?hd (cs := #[.int .i64 0, .int .i64 0]) (t := 192) ?hr ?_; (case hd => rfl); (case hg => rfl); (case hr => first | (go_simp; done) | (go_simp; rfl)); intro gb491 hg w2 hbox hb; have n0_ := Aside0.mk (below_step (by repeat (first | (with_reducible first | exact HB.out | apply below_alloc | apply pw_below_drewN | apply below_drew1) | exact HB.out)) hb); have n1_ := Aside0.mk (hbox); have n2_ := Aside0.mk ((by rw [hg]; exact (below_size (by repeat (first | (with_reducible first | exact HB.out | apply below_alloc | apply pw_below_drewN | apply below_drew1) | exact HB.out))) : w.heap.size ≤ gb491)); have n3_ := Aside0.mk ((by rw [hg]; exact (below_size (by repeat (first | (with_reducible first | exact HB.out | apply below_alloc | apply pw_below_drewN | apply below_drew1) | exact HB.out))) : w.heap.size ≤ gb491)); clear HB; have HB := n0_; have BK491 := n1_; have GW491 := n2_; have GE491 := n3_; clear n0_ n1_ n2_ n3_; clear hb hbox hg; have hcz3_0 : w2.cell? ⟨gb491, 0, none⟩ = some (.int .i64 0) := (blk_cell BK491.out 0).trans rfl; have hcz3_1 : w2.cell? ⟨gb491, 1, none⟩ = some (.int .i64 0) := (blk_cell BK491.out 1).trans rfl; have hfz3_0 := blk_frozen BK491.out 0; have hfz3_1 := blk_frozen BK491.out 1)); try go_wp2_with (first | ((with_reducible refine gate_dst (N := 4) rfl ?_); refine box_event ?hg (N := 4) ?hd (cs := #[.int .i64 0, .int .i64 0]) (t := 192) ?hr ?_; (case hd => rfl); (case hg => rfl); (case hr => first | (go_simp; done) | (go_simp; rfl)); intro gb491 hg w2 hbox hb; have n0_ := Aside0.mk (below_step (by repeat (first | (with_reducible first | exact HB.out | apply below_alloc | apply pw_below_drewN | apply below_drew1) | exact HB.out)) hb); have n1_ := Aside0.mk (hbox); have n2_ := Aside0.mk ((by rw [hg]; exact (below_size (by repeat (first | (with_reducible first | exact HB.out | apply below_alloc | apply pw_below_drewN | apply below_drew1) | exact HB.out))) : w.heap.size ≤ gb491)); have n3_ := Aside0.mk ((by rw [hg]; exact (below_size (by repeat (first | (with_reducible first | exact HB.out | apply below_alloc | apply pw_below_drewN | apply below_drew1) | exact HB.out))) : w.heap.size ≤ gb491)); clear HB; have HB := n0_; have BK491 := n1_; have GW491 := n2_; have GE491 := n3_; clear n0_ n1_ n2_ n3_; clear hb hbox hg; have hcz3_0 : w2.cell? ⟨gb491, 0, none⟩ = some (.int .i64 0) := (blk_cell BK491.out 0).trans rfl; have hcz3_1 : w2.cell? ⟨gb491, 1, none⟩ = some (.int .i64 0) := (blk_cell BK491.out 1).trans rfl; have hfz3_0 := blk_frozen BK491.out 0; have hfz3_1 := blk_frozen BK491.out 1)))
  go_ret2
  exact ⟨by first | rfl | (simp [errW_none, errW_some] <;> rfl) | (simp [*, errW_none, errW_some] <;> rfl), by repeat (first | (with_reducible first | exact HB.out | apply below_alloc | apply pw_below_drewN | apply below_drew1 | refine below_set ?_ GE491.out) | exact HB.out)⟩
end Go.Proofs.Ytakkhomjpflkbaa.F
