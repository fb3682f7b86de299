-- merged and pruned by prune.py (the session's own program); its words go back to the kit's print
import Derived.Test.YtefhljhpcpajgaaProg
import Derived.Below
import Derived.Deep.Draws
import Derived.Deep.AppendLies
import Derived.Maps.AppendAt
import Derived.OwnWalk
import Derived.Laws.BytesArg
import Derived.Laws.MakeOwn
import Derived.Laws.OwnMore
import Derived.Deep.OwnRows
import Derived.Tactics
import Derived.Lib.ConvBytes
import Derived.Laws.Slices
import Derived.WalkKit
import Derived.KernelRfl
import Derived.RowKit3
import Derived.Deep.LoopGhost
import Derived.Deep.QuietTactic
import Derived.BigQuiet
import Derived.WideLaws
import Derived.Deep.DeepCutAuto
import Derived.Deep.CutBlock
import Derived.Deep.RegionHeld3
import Derived.Laws.Rows
import Derived.Lib.AppendStr
import Derived.ArgAppend
import Derived.Laws.IdiomCopy
import Derived.OrdersHeld
import Derived.Laws.BitsLemmas
import Derived.RowKit
import Derived.Laws.StructEq
import Derived.Deep.RegionLawGrows
import Derived.Lib.SliceRun
import Derived.Lib.OthersKept
import Derived.Lib.RuneCount
import Derived.Laws.Cover4
import Derived.Outline
import Derived.Shelf.Small.Bits
import Derived.Shelf.Utf8.RuneCount
import Derived.Shelf.Strconv.Itoa0
import Derived.Shelf.Strings.Prefix
import Derived.Shelf.Bits.Mul64
import Derived.Ground.SlsfProg
import Derived.Shelf.SlSortCmp.Insertion
import Derived.Shelf.SlSortCmp.Insertion1
import Derived.Sort.LotA
import Derived.Sort.OwnSortedInts
import Derived.Maps.Own
import Derived.Maps.OwnOps
import Derived.Maps.Views
import Derived.StringKeys
import Derived.Carry
import Derived.Test.YtefhljhpcpajgaaZValueWhole4
namespace Go.Proofs.Ytefhljhpcpajgaa.F
open Go.RowKit Go.Proofs.YtefhljhpcpajgaaX Go.Proofs.YtefhljhpcpajgaaW.PrintWords Go.Proofs.YtefhljhpcpajgaaW.PrintLast Go.Proofs.YtefhljhpcpajgaaW.PrintMore
attribute [local go_sem] max2_int min2_int max_two min_two max_three min_three max_four min_four   
attribute [local go_sem high] str_geq str_leq str_gtr
set_option linter.unusedVariables false
set_option linter.unusedSimpArgs false
def backhaullaw22_awake.f  : Option (Bool) := some true
set_option maxHeartbeats 8000000 in
set_option maxRecDepth 100000 in
theorem backhaullaw22_awake.calls (r : Bool)  (w : World) (h : backhaullaw22_awake.f  = some r) :
    Calls Try.prog 73 #[] w fun e w' => e = .returned (.bool r) ∧ Below w.heap.size w w' := by
  obtain rfl : r = true := by injection h with h; exact h.symm
  have HB := zA (Below.refl w.heap.size w)
  have H : ((backhaullaw22_one.f).bind fun bt101 => ((value_Full.f 1000 bt101.1 bt101.2.1 bt101.2.2.1 bt101.2.2.2.1 bt101.2.2.2.2 1).bind fun bt108 => ((backhaullaw22_one.f).bind fun bt110 => ((backhaullaw22_fees.f).bind fun t117 => ((value_Of.f 1000 bt110.1 bt110.2.1 bt110.2.2.1 bt110.2.2.2.1 bt110.2.2.2.2 1 t117 1).bind fun bt120 => ((backhaullaw22_one.f).bind fun bt122 => ((backhaullaw22_fees.f).bind fun t129 => ((value_All.f 1000 bt122.1 bt122.2.1 bt122.2.2.1 bt122.2.2.2.1 bt122.2.2.2.2 t129 (([0, 3] : List Int))).bind fun bt135 => ((backhaullaw22_one.f).bind fun bt140 => ((backhaullaw22_fees.f).bind fun t147 => ((value_Most.f 1000 bt140.1 bt140.2.1 bt140.2.2.1 bt140.2.2.2.1 bt140.2.2.2.2 t147).bind fun bt150 => ((backhaullaw22_one.f).bind fun bt152 => ((backhaullaw22_fees.f).bind fun t159 => ((value_Of.f 1000 bt152.1 bt152.2.1 bt152.2.2.1 bt152.2.2.2.1 bt152.2.2.2.2 2 t159 1).bind fun bt162 => ((backhaullaw22_one.f).bind fun bt164 => ((backhaullaw22_fees.f).bind fun t171 => ((value_All.f 1000 bt164.1 bt164.2.1 bt164.2.2.1 bt164.2.2.2.1 bt164.2.2.2.2 t171 (([0] : List Int))).bind fun bt177 => (if bt108.1 = 55 then (if bt108.2 = 0 then (if bt120.1 = 49 then (if bt120.2 = 0 then ((backhaulref02_SameInts.f 1000 bt135.1 (([55, 0] : List Int))).bind fun t185 => (if t185 = true then (if bt135.2.1 = 55 then (if bt135.2.2 = 0 then (if bt150.1 = 110 then (if bt150.2 = 0 then (if bt162.2 = 2 then (if bt177.2.2 = 2 then (some true) else (some false)) else (some false)) else (some false)) else (some false)) else (some false)) else (some false)) else (some false))) else (some false)) else (some false)) else (some false)) else (some false))))))))))))))))))) = some true := by decide +kernel
  replace H := Option.bind_eq_some_iff.mp H
  obtain ⟨⟨t101, t102, t103, t104, t105⟩, A10, H⟩ := H
  replace H : ((value_Full.f 1000 t101 t102 t103 t104 t105 1).bind fun bt108 => ((backhaullaw22_one.f).bind fun bt110 => ((backhaullaw22_fees.f).bind fun t117 => ((value_Of.f 1000 bt110.1 bt110.2.1 bt110.2.2.1 bt110.2.2.2.1 bt110.2.2.2.2 1 t117 1).bind fun bt120 => ((backhaullaw22_one.f).bind fun bt122 => ((backhaullaw22_fees.f).bind fun t129 => ((value_All.f 1000 bt122.1 bt122.2.1 bt122.2.2.1 bt122.2.2.2.1 bt122.2.2.2.2 t129 (([0, 3] : List Int))).bind fun bt135 => ((backhaullaw22_one.f).bind fun bt140 => ((backhaullaw22_fees.f).bind fun t147 => ((value_Most.f 1000 bt140.1 bt140.2.1 bt140.2.2.1 bt140.2.2.2.1 bt140.2.2.2.2 t147).bind fun bt150 => ((backhaullaw22_one.f).bind fun bt152 => ((backhaullaw22_fees.f).bind fun t159 => ((value_Of.f 1000 bt152.1 bt152.2.1 bt152.2.2.1 bt152.2.2.2.1 bt152.2.2.2.2 2 t159 1).bind fun bt162 => ((backhaullaw22_one.f).bind fun bt164 => ((backhaullaw22_fees.f).bind fun t171 => ((value_All.f 1000 bt164.1 bt164.2.1 bt164.2.2.1 bt164.2.2.2.1 bt164.2.2.2.2 t171 (([0] : List Int))).bind fun bt177 => (if bt108.1 = 55 then (if bt108.2 = 0 then (if bt120.1 = 49 then (if bt120.2 = 0 then ((backhaulref02_SameInts.f 1000 bt135.1 (([55, 0] : List Int))).bind fun t185 => (if t185 = true then (if bt135.2.1 = 55 then (if bt135.2.2 = 0 then (if bt150.1 = 110 then (if bt150.2 = 0 then (if bt162.2 = 2 then (if bt177.2.2 = 2 then (some true) else (some false)) else (some false)) else (some false)) else (some false)) else (some false)) else (some false)) else (some false))) else (some false)) else (some false)) else (some false)) else (some false)))))))))))))))))) = some true := H
  have A1 := zA A10
  clear A10
  replace H := Option.bind_eq_some_iff.mp H
  obtain ⟨⟨t108, t109⟩, A20, H⟩ := H
  replace H : ((backhaullaw22_one.f).bind fun bt110 => ((backhaullaw22_fees.f).bind fun t117 => ((value_Of.f 1000 bt110.1 bt110.2.1 bt110.2.2.1 bt110.2.2.2.1 bt110.2.2.2.2 1 t117 1).bind fun bt120 => ((backhaullaw22_one.f).bind fun bt122 => ((backhaullaw22_fees.f).bind fun t129 => ((value_All.f 1000 bt122.1 bt122.2.1 bt122.2.2.1 bt122.2.2.2.1 bt122.2.2.2.2 t129 (([0, 3] : List Int))).bind fun bt135 => ((backhaullaw22_one.f).bind fun bt140 => ((backhaullaw22_fees.f).bind fun t147 => ((value_Most.f 1000 bt140.1 bt140.2.1 bt140.2.2.1 bt140.2.2.2.1 bt140.2.2.2.2 t147).bind fun bt150 => ((backhaullaw22_one.f).bind fun bt152 => ((backhaullaw22_fees.f).bind fun t159 => ((value_Of.f 1000 bt152.1 bt152.2.1 bt152.2.2.1 bt152.2.2.2.1 bt152.2.2.2.2 2 t159 1).bind fun bt162 => ((backhaullaw22_one.f).bind fun bt164 => ((backhaullaw22_fees.f).bind fun t171 => ((value_All.f 1000 bt164.1 bt164.2.1 bt164.2.2.1 bt164.2.2.2.1 bt164.2.2.2.2 t171 (([0] : List Int))).bind fun bt177 => (if t108 = 55 then (if t109 = 0 then (if bt120.1 = 49 then (if bt120.2 = 0 then ((backhaulref02_SameInts.f 1000 bt135.1 (([55, 0] : List Int))).bind fun t185 => (if t185 = true then (if bt135.2.1 = 55 then (if bt135.2.2 = 0 then (if bt150.1 = 110 then (if bt150.2 = 0 then (if bt162.2 = 2 then (if bt177.2.2 = 2 then (some true) else (some false)) else (some false)) else (some false)) else (some false)) else (some false)) else (some false)) else (some false))) else (some false)) else (some false)) else (some false)) else (some false))))))))))))))))) = some true := H
  have A2 := zA A20
  clear A20
  replace H := Option.bind_eq_some_iff.mp H
  obtain ⟨⟨t110, t111, t112, t113, t114⟩, A30, H⟩ := H
  replace H : ((backhaullaw22_fees.f).bind fun t117 => ((value_Of.f 1000 t110 t111 t112 t113 t114 1 t117 1).bind fun bt120 => ((backhaullaw22_one.f).bind fun bt122 => ((backhaullaw22_fees.f).bind fun t129 => ((value_All.f 1000 bt122.1 bt122.2.1 bt122.2.2.1 bt122.2.2.2.1 bt122.2.2.2.2 t129 (([0, 3] : List Int))).bind fun bt135 => ((backhaullaw22_one.f).bind fun bt140 => ((backhaullaw22_fees.f).bind fun t147 => ((value_Most.f 1000 bt140.1 bt140.2.1 bt140.2.2.1 bt140.2.2.2.1 bt140.2.2.2.2 t147).bind fun bt150 => ((backhaullaw22_one.f).bind fun bt152 => ((backhaullaw22_fees.f).bind fun t159 => ((value_Of.f 1000 bt152.1 bt152.2.1 bt152.2.2.1 bt152.2.2.2.1 bt152.2.2.2.2 2 t159 1).bind fun bt162 => ((backhaullaw22_one.f).bind fun bt164 => ((backhaullaw22_fees.f).bind fun t171 => ((value_All.f 1000 bt164.1 bt164.2.1 bt164.2.2.1 bt164.2.2.2.1 bt164.2.2.2.2 t171 (([0] : List Int))).bind fun bt177 => (if t108 = 55 then (if t109 = 0 then (if bt120.1 = 49 then (if bt120.2 = 0 then ((backhaulref02_SameInts.f 1000 bt135.1 (([55, 0] : List Int))).bind fun t185 => (if t185 = true then (if bt135.2.1 = 55 then (if bt135.2.2 = 0 then (if bt150.1 = 110 then (if bt150.2 = 0 then (if bt162.2 = 2 then (if bt177.2.2 = 2 then (some true) else (some false)) else (some false)) else (some false)) else (some false)) else (some false)) else (some false)) else (some false))) else (some false)) else (some false)) else (some false)) else (some false)))))))))))))))) = some true := H
  have A3 := zA A30
  clear A30
  replace H := Option.bind_eq_some_iff.mp H
  obtain ⟨t117, A40, H⟩ := H
  replace H : ((value_Of.f 1000 t110 t111 t112 t113 t114 1 t117 1).bind fun bt120 => ((backhaullaw22_one.f).bind fun bt122 => ((backhaullaw22_fees.f).bind fun t129 => ((value_All.f 1000 bt122.1 bt122.2.1 bt122.2.2.1 bt122.2.2.2.1 bt122.2.2.2.2 t129 (([0, 3] : List Int))).bind fun bt135 => ((backhaullaw22_one.f).bind fun bt140 => ((backhaullaw22_fees.f).bind fun t147 => ((value_Most.f 1000 bt140.1 bt140.2.1 bt140.2.2.1 bt140.2.2.2.1 bt140.2.2.2.2 t147).bind fun bt150 => ((backhaullaw22_one.f).bind fun bt152 => ((backhaullaw22_fees.f).bind fun t159 => ((value_Of.f 1000 bt152.1 bt152.2.1 bt152.2.2.1 bt152.2.2.2.1 bt152.2.2.2.2 2 t159 1).bind fun bt162 => ((backhaullaw22_one.f).bind fun bt164 => ((backhaullaw22_fees.f).bind fun t171 => ((value_All.f 1000 bt164.1 bt164.2.1 bt164.2.2.1 bt164.2.2.2.1 bt164.2.2.2.2 t171 (([0] : List Int))).bind fun bt177 => (if t108 = 55 then (if t109 = 0 then (if bt120.1 = 49 then (if bt120.2 = 0 then ((backhaulref02_SameInts.f 1000 bt135.1 (([55, 0] : List Int))).bind fun t185 => (if t185 = true then (if bt135.2.1 = 55 then (if bt135.2.2 = 0 then (if bt150.1 = 110 then (if bt150.2 = 0 then (if bt162.2 = 2 then (if bt177.2.2 = 2 then (some true) else (some false)) else (some false)) else (some false)) else (some false)) else (some false)) else (some false)) else (some false))) else (some false)) else (some false)) else (some false)) else (some false))))))))))))))) = some true := H
  have A4 := zA A40
  clear A40
  replace H := Option.bind_eq_some_iff.mp H
  obtain ⟨⟨t120, t121⟩, A50, H⟩ := H
  replace H : ((backhaullaw22_one.f).bind fun bt122 => ((backhaullaw22_fees.f).bind fun t129 => ((value_All.f 1000 bt122.1 bt122.2.1 bt122.2.2.1 bt122.2.2.2.1 bt122.2.2.2.2 t129 (([0, 3] : List Int))).bind fun bt135 => ((backhaullaw22_one.f).bind fun bt140 => ((backhaullaw22_fees.f).bind fun t147 => ((value_Most.f 1000 bt140.1 bt140.2.1 bt140.2.2.1 bt140.2.2.2.1 bt140.2.2.2.2 t147).bind fun bt150 => ((backhaullaw22_one.f).bind fun bt152 => ((backhaullaw22_fees.f).bind fun t159 => ((value_Of.f 1000 bt152.1 bt152.2.1 bt152.2.2.1 bt152.2.2.2.1 bt152.2.2.2.2 2 t159 1).bind fun bt162 => ((backhaullaw22_one.f).bind fun bt164 => ((backhaullaw22_fees.f).bind fun t171 => ((value_All.f 1000 bt164.1 bt164.2.1 bt164.2.2.1 bt164.2.2.2.1 bt164.2.2.2.2 t171 (([0] : List Int))).bind fun bt177 => (if t108 = 55 then (if t109 = 0 then (if t120 = 49 then (if t121 = 0 then ((backhaulref02_SameInts.f 1000 bt135.1 (([55, 0] : List Int))).bind fun t185 => (if t185 = true then (if bt135.2.1 = 55 then (if bt135.2.2 = 0 then (if bt150.1 = 110 then (if bt150.2 = 0 then (if bt162.2 = 2 then (if bt177.2.2 = 2 then (some true) else (some false)) else (some false)) else (some false)) else (some false)) else (some false)) else (some false)) else (some false))) else (some false)) else (some false)) else (some false)) else (some false)))))))))))))) = some true := H
  have A5 := zA A50
  clear A50
  replace H := Option.bind_eq_some_iff.mp H
  obtain ⟨⟨t122, t123, t124, t125, t126⟩, A60, H⟩ := H
  replace H : ((backhaullaw22_fees.f).bind fun t129 => ((value_All.f 1000 t122 t123 t124 t125 t126 t129 (([0, 3] : List Int))).bind fun bt135 => ((backhaullaw22_one.f).bind fun bt140 => ((backhaullaw22_fees.f).bind fun t147 => ((value_Most.f 1000 bt140.1 bt140.2.1 bt140.2.2.1 bt140.2.2.2.1 bt140.2.2.2.2 t147).bind fun bt150 => ((backhaullaw22_one.f).bind fun bt152 => ((backhaullaw22_fees.f).bind fun t159 => ((value_Of.f 1000 bt152.1 bt152.2.1 bt152.2.2.1 bt152.2.2.2.1 bt152.2.2.2.2 2 t159 1).bind fun bt162 => ((backhaullaw22_one.f).bind fun bt164 => ((backhaullaw22_fees.f).bind fun t171 => ((value_All.f 1000 bt164.1 bt164.2.1 bt164.2.2.1 bt164.2.2.2.1 bt164.2.2.2.2 t171 (([0] : List Int))).bind fun bt177 => (if t108 = 55 then (if t109 = 0 then (if t120 = 49 then (if t121 = 0 then ((backhaulref02_SameInts.f 1000 bt135.1 (([55, 0] : List Int))).bind fun t185 => (if t185 = true then (if bt135.2.1 = 55 then (if bt135.2.2 = 0 then (if bt150.1 = 110 then (if bt150.2 = 0 then (if bt162.2 = 2 then (if bt177.2.2 = 2 then (some true) else (some false)) else (some false)) else (some false)) else (some false)) else (some false)) else (some false)) else (some false))) else (some false)) else (some false)) else (some false)) else (some false))))))))))))) = some true := H
  have A6 := zA A60
  clear A60
  replace H := Option.bind_eq_some_iff.mp H
  obtain ⟨t129, A70, H⟩ := H
  replace H : ((value_All.f 1000 t122 t123 t124 t125 t126 t129 (([0, 3] : List Int))).bind fun bt135 => ((backhaullaw22_one.f).bind fun bt140 => ((backhaullaw22_fees.f).bind fun t147 => ((value_Most.f 1000 bt140.1 bt140.2.1 bt140.2.2.1 bt140.2.2.2.1 bt140.2.2.2.2 t147).bind fun bt150 => ((backhaullaw22_one.f).bind fun bt152 => ((backhaullaw22_fees.f).bind fun t159 => ((value_Of.f 1000 bt152.1 bt152.2.1 bt152.2.2.1 bt152.2.2.2.1 bt152.2.2.2.2 2 t159 1).bind fun bt162 => ((backhaullaw22_one.f).bind fun bt164 => ((backhaullaw22_fees.f).bind fun t171 => ((value_All.f 1000 bt164.1 bt164.2.1 bt164.2.2.1 bt164.2.2.2.1 bt164.2.2.2.2 t171 (([0] : List Int))).bind fun bt177 => (if t108 = 55 then (if t109 = 0 then (if t120 = 49 then (if t121 = 0 then ((backhaulref02_SameInts.f 1000 bt135.1 (([55, 0] : List Int))).bind fun t185 => (if t185 = true then (if bt135.2.1 = 55 then (if bt135.2.2 = 0 then (if bt150.1 = 110 then (if bt150.2 = 0 then (if bt162.2 = 2 then (if bt177.2.2 = 2 then (some true) else (some false)) else (some false)) else (some false)) else (some false)) else (some false)) else (some false)) else (some false))) else (some false)) else (some false)) else (some false)) else (some false)))))))))))) = some true := H
  have A7 := zA A70
  clear A70
  obtain ⟨y132, hy132⟩ : ∃ y_ : List Int, y_ = (([0, 3] : List Int)) := ⟨_, rfl⟩
  replace H : ((value_All.f 1000 t122 t123 t124 t125 t126 t129 y132).bind fun bt135 => ((backhaullaw22_one.f).bind fun bt140 => ((backhaullaw22_fees.f).bind fun t147 => ((value_Most.f 1000 bt140.1 bt140.2.1 bt140.2.2.1 bt140.2.2.2.1 bt140.2.2.2.2 t147).bind fun bt150 => ((backhaullaw22_one.f).bind fun bt152 => ((backhaullaw22_fees.f).bind fun t159 => ((value_Of.f 1000 bt152.1 bt152.2.1 bt152.2.2.1 bt152.2.2.2.1 bt152.2.2.2.2 2 t159 1).bind fun bt162 => ((backhaullaw22_one.f).bind fun bt164 => ((backhaullaw22_fees.f).bind fun t171 => ((value_All.f 1000 bt164.1 bt164.2.1 bt164.2.2.1 bt164.2.2.2.1 bt164.2.2.2.2 t171 (([0] : List Int))).bind fun bt177 => (if t108 = 55 then (if t109 = 0 then (if t120 = 49 then (if t121 = 0 then ((backhaulref02_SameInts.f 1000 bt135.1 (([55, 0] : List Int))).bind fun t185 => (if t185 = true then (if bt135.2.1 = 55 then (if bt135.2.2 = 0 then (if bt150.1 = 110 then (if bt150.2 = 0 then (if bt162.2 = 2 then (if bt177.2.2 = 2 then (some true) else (some false)) else (some false)) else (some false)) else (some false)) else (some false)) else (some false)) else (some false))) else (some false)) else (some false)) else (some false)) else (some false)))))))))))) = some true := by first | (rw [hy132]; with_reducible exact H) | (have H2_ := (Option.bind_some _ _).symm.trans H; rw [hy132]; with_reducible exact H2_) | (have H2_ := (Option.bind_some _ _).symm.trans H; with_reducible exact H2_) | with_reducible exact H | (rw [hy132]; exact H) | exact H
  have Ny132 := zA hy132
  clear hy132
  replace H := Option.bind_eq_some_iff.mp H
  obtain ⟨⟨t135, t138, t139⟩, A80, H⟩ := H
  replace H : ((backhaullaw22_one.f).bind fun bt140 => ((backhaullaw22_fees.f).bind fun t147 => ((value_Most.f 1000 bt140.1 bt140.2.1 bt140.2.2.1 bt140.2.2.2.1 bt140.2.2.2.2 t147).bind fun bt150 => ((backhaullaw22_one.f).bind fun bt152 => ((backhaullaw22_fees.f).bind fun t159 => ((value_Of.f 1000 bt152.1 bt152.2.1 bt152.2.2.1 bt152.2.2.2.1 bt152.2.2.2.2 2 t159 1).bind fun bt162 => ((backhaullaw22_one.f).bind fun bt164 => ((backhaullaw22_fees.f).bind fun t171 => ((value_All.f 1000 bt164.1 bt164.2.1 bt164.2.2.1 bt164.2.2.2.1 bt164.2.2.2.2 t171 (([0] : List Int))).bind fun bt177 => (if t108 = 55 then (if t109 = 0 then (if t120 = 49 then (if t121 = 0 then ((backhaulref02_SameInts.f 1000 t135 (([55, 0] : List Int))).bind fun t185 => (if t185 = true then (if t138 = 55 then (if t139 = 0 then (if bt150.1 = 110 then (if bt150.2 = 0 then (if bt162.2 = 2 then (if bt177.2.2 = 2 then (some true) else (some false)) else (some false)) else (some false)) else (some false)) else (some false)) else (some false)) else (some false))) else (some false)) else (some false)) else (some false)) else (some false))))))))))) = some true := H
  have A8 := zA A80
  clear A80
  replace H := Option.bind_eq_some_iff.mp H
  obtain ⟨⟨t140, t141, t142, t143, t144⟩, A90, H⟩ := H
  replace H : ((backhaullaw22_fees.f).bind fun t147 => ((value_Most.f 1000 t140 t141 t142 t143 t144 t147).bind fun bt150 => ((backhaullaw22_one.f).bind fun bt152 => ((backhaullaw22_fees.f).bind fun t159 => ((value_Of.f 1000 bt152.1 bt152.2.1 bt152.2.2.1 bt152.2.2.2.1 bt152.2.2.2.2 2 t159 1).bind fun bt162 => ((backhaullaw22_one.f).bind fun bt164 => ((backhaullaw22_fees.f).bind fun t171 => ((value_All.f 1000 bt164.1 bt164.2.1 bt164.2.2.1 bt164.2.2.2.1 bt164.2.2.2.2 t171 (([0] : List Int))).bind fun bt177 => (if t108 = 55 then (if t109 = 0 then (if t120 = 49 then (if t121 = 0 then ((backhaulref02_SameInts.f 1000 t135 (([55, 0] : List Int))).bind fun t185 => (if t185 = true then (if t138 = 55 then (if t139 = 0 then (if bt150.1 = 110 then (if bt150.2 = 0 then (if bt162.2 = 2 then (if bt177.2.2 = 2 then (some true) else (some false)) else (some false)) else (some false)) else (some false)) else (some false)) else (some false)) else (some false))) else (some false)) else (some false)) else (some false)) else (some false)))))))))) = some true := H
  have A9 := zA A90
  clear A90
  replace H := Option.bind_eq_some_iff.mp H
  obtain ⟨t147, A100, H⟩ := H
  replace H : ((value_Most.f 1000 t140 t141 t142 t143 t144 t147).bind fun bt150 => ((backhaullaw22_one.f).bind fun bt152 => ((backhaullaw22_fees.f).bind fun t159 => ((value_Of.f 1000 bt152.1 bt152.2.1 bt152.2.2.1 bt152.2.2.2.1 bt152.2.2.2.2 2 t159 1).bind fun bt162 => ((backhaullaw22_one.f).bind fun bt164 => ((backhaullaw22_fees.f).bind fun t171 => ((value_All.f 1000 bt164.1 bt164.2.1 bt164.2.2.1 bt164.2.2.2.1 bt164.2.2.2.2 t171 (([0] : List Int))).bind fun bt177 => (if t108 = 55 then (if t109 = 0 then (if t120 = 49 then (if t121 = 0 then ((backhaulref02_SameInts.f 1000 t135 (([55, 0] : List Int))).bind fun t185 => (if t185 = true then (if t138 = 55 then (if t139 = 0 then (if bt150.1 = 110 then (if bt150.2 = 0 then (if bt162.2 = 2 then (if bt177.2.2 = 2 then (some true) else (some false)) else (some false)) else (some false)) else (some false)) else (some false)) else (some false)) else (some false))) else (some false)) else (some false)) else (some false)) else (some false))))))))) = some true := H
  have A10 := zA A100
  clear A100
  replace H := Option.bind_eq_some_iff.mp H
  obtain ⟨⟨t150, t151⟩, A110, H⟩ := H
  replace H : ((backhaullaw22_one.f).bind fun bt152 => ((backhaullaw22_fees.f).bind fun t159 => ((value_Of.f 1000 bt152.1 bt152.2.1 bt152.2.2.1 bt152.2.2.2.1 bt152.2.2.2.2 2 t159 1).bind fun bt162 => ((backhaullaw22_one.f).bind fun bt164 => ((backhaullaw22_fees.f).bind fun t171 => ((value_All.f 1000 bt164.1 bt164.2.1 bt164.2.2.1 bt164.2.2.2.1 bt164.2.2.2.2 t171 (([0] : List Int))).bind fun bt177 => (if t108 = 55 then (if t109 = 0 then (if t120 = 49 then (if t121 = 0 then ((backhaulref02_SameInts.f 1000 t135 (([55, 0] : List Int))).bind fun t185 => (if t185 = true then (if t138 = 55 then (if t139 = 0 then (if t150 = 110 then (if t151 = 0 then (if bt162.2 = 2 then (if bt177.2.2 = 2 then (some true) else (some false)) else (some false)) else (some false)) else (some false)) else (some false)) else (some false)) else (some false))) else (some false)) else (some false)) else (some false)) else (some false)))))))) = some true := H
  have A11 := zA A110
  clear A110
  replace H := Option.bind_eq_some_iff.mp H
  obtain ⟨⟨t152, t153, t154, t155, t156⟩, A120, H⟩ := H
  replace H : ((backhaullaw22_fees.f).bind fun t159 => ((value_Of.f 1000 t152 t153 t154 t155 t156 2 t159 1).bind fun bt162 => ((backhaullaw22_one.f).bind fun bt164 => ((backhaullaw22_fees.f).bind fun t171 => ((value_All.f 1000 bt164.1 bt164.2.1 bt164.2.2.1 bt164.2.2.2.1 bt164.2.2.2.2 t171 (([0] : List Int))).bind fun bt177 => (if t108 = 55 then (if t109 = 0 then (if t120 = 49 then (if t121 = 0 then ((backhaulref02_SameInts.f 1000 t135 (([55, 0] : List Int))).bind fun t185 => (if t185 = true then (if t138 = 55 then (if t139 = 0 then (if t150 = 110 then (if t151 = 0 then (if bt162.2 = 2 then (if bt177.2.2 = 2 then (some true) else (some false)) else (some false)) else (some false)) else (some false)) else (some false)) else (some false)) else (some false))) else (some false)) else (some false)) else (some false)) else (some false))))))) = some true := H
  have A12 := zA A120
  clear A120
  replace H := Option.bind_eq_some_iff.mp H
  obtain ⟨t159, A130, H⟩ := H
  replace H : ((value_Of.f 1000 t152 t153 t154 t155 t156 2 t159 1).bind fun bt162 => ((backhaullaw22_one.f).bind fun bt164 => ((backhaullaw22_fees.f).bind fun t171 => ((value_All.f 1000 bt164.1 bt164.2.1 bt164.2.2.1 bt164.2.2.2.1 bt164.2.2.2.2 t171 (([0] : List Int))).bind fun bt177 => (if t108 = 55 then (if t109 = 0 then (if t120 = 49 then (if t121 = 0 then ((backhaulref02_SameInts.f 1000 t135 (([55, 0] : List Int))).bind fun t185 => (if t185 = true then (if t138 = 55 then (if t139 = 0 then (if t150 = 110 then (if t151 = 0 then (if bt162.2 = 2 then (if bt177.2.2 = 2 then (some true) else (some false)) else (some false)) else (some false)) else (some false)) else (some false)) else (some false)) else (some false))) else (some false)) else (some false)) else (some false)) else (some false)))))) = some true := H
  have A13 := zA A130
  clear A130
  replace H := Option.bind_eq_some_iff.mp H
  obtain ⟨⟨t162, t163⟩, A140, H⟩ := H
  replace H : ((backhaullaw22_one.f).bind fun bt164 => ((backhaullaw22_fees.f).bind fun t171 => ((value_All.f 1000 bt164.1 bt164.2.1 bt164.2.2.1 bt164.2.2.2.1 bt164.2.2.2.2 t171 (([0] : List Int))).bind fun bt177 => (if t108 = 55 then (if t109 = 0 then (if t120 = 49 then (if t121 = 0 then ((backhaulref02_SameInts.f 1000 t135 (([55, 0] : List Int))).bind fun t185 => (if t185 = true then (if t138 = 55 then (if t139 = 0 then (if t150 = 110 then (if t151 = 0 then (if t163 = 2 then (if bt177.2.2 = 2 then (some true) else (some false)) else (some false)) else (some false)) else (some false)) else (some false)) else (some false)) else (some false))) else (some false)) else (some false)) else (some false)) else (some false))))) = some true := H
  have A14 := zA A140
  clear A140
  replace H := Option.bind_eq_some_iff.mp H
  obtain ⟨⟨t164, t165, t166, t167, t168⟩, A150, H⟩ := H
  replace H : ((backhaullaw22_fees.f).bind fun t171 => ((value_All.f 1000 t164 t165 t166 t167 t168 t171 (([0] : List Int))).bind fun bt177 => (if t108 = 55 then (if t109 = 0 then (if t120 = 49 then (if t121 = 0 then ((backhaulref02_SameInts.f 1000 t135 (([55, 0] : List Int))).bind fun t185 => (if t185 = true then (if t138 = 55 then (if t139 = 0 then (if t150 = 110 then (if t151 = 0 then (if t163 = 2 then (if bt177.2.2 = 2 then (some true) else (some false)) else (some false)) else (some false)) else (some false)) else (some false)) else (some false)) else (some false))) else (some false)) else (some false)) else (some false)) else (some false)))) = some true := H
  have A15 := zA A150
  clear A150
  replace H := Option.bind_eq_some_iff.mp H
  obtain ⟨t171, A160, H⟩ := H
  replace H : ((value_All.f 1000 t164 t165 t166 t167 t168 t171 (([0] : List Int))).bind fun bt177 => (if t108 = 55 then (if t109 = 0 then (if t120 = 49 then (if t121 = 0 then ((backhaulref02_SameInts.f 1000 t135 (([55, 0] : List Int))).bind fun t185 => (if t185 = true then (if t138 = 55 then (if t139 = 0 then (if t150 = 110 then (if t151 = 0 then (if t163 = 2 then (if bt177.2.2 = 2 then (some true) else (some false)) else (some false)) else (some false)) else (some false)) else (some false)) else (some false)) else (some false))) else (some false)) else (some false)) else (some false)) else (some false))) = some true := H
  have A16 := zA A160
  clear A160
  obtain ⟨y174, hy174⟩ : ∃ y_ : List Int, y_ = (([0] : List Int)) := ⟨_, rfl⟩
  replace H : ((value_All.f 1000 t164 t165 t166 t167 t168 t171 y174).bind fun bt177 => (if t108 = 55 then (if t109 = 0 then (if t120 = 49 then (if t121 = 0 then ((backhaulref02_SameInts.f 1000 t135 (([55, 0] : List Int))).bind fun t185 => (if t185 = true then (if t138 = 55 then (if t139 = 0 then (if t150 = 110 then (if t151 = 0 then (if t163 = 2 then (if bt177.2.2 = 2 then (some true) else (some false)) else (some false)) else (some false)) else (some false)) else (some false)) else (some false)) else (some false))) else (some false)) else (some false)) else (some false)) else (some false))) = some true := by first | (rw [hy174]; with_reducible exact H) | (have H2_ := (Option.bind_some _ _).symm.trans H; rw [hy174]; with_reducible exact H2_) | (have H2_ := (Option.bind_some _ _).symm.trans H; with_reducible exact H2_) | with_reducible exact H | (rw [hy174]; exact H) | exact H
  have Ny174 := zA hy174
  clear hy174
  replace H := Option.bind_eq_some_iff.mp H
  obtain ⟨⟨t177, t180, t181⟩, A170, H⟩ := H
  replace H : (if t108 = 55 then (if t109 = 0 then (if t120 = 49 then (if t121 = 0 then ((backhaulref02_SameInts.f 1000 t135 (([55, 0] : List Int))).bind fun t185 => (if t185 = true then (if t138 = 55 then (if t139 = 0 then (if t150 = 110 then (if t151 = 0 then (if t163 = 2 then (if t181 = 2 then (some true) else (some false)) else (some false)) else (some false)) else (some false)) else (some false)) else (some false)) else (some false))) else (some false)) else (some false)) else (some false)) else (some false)) = some true := H
  have A17 := zA A170
  clear A170
  by_cases c18 : t108 = 55
  · rw [if_pos c18] at H
    have c18b0 : (t108 == 55) = true := beq_iff_eq.mpr c18; have c18b1 : (t108 != 55) = false := bne_eq_false_iff_eq.mpr c18; clear c18; by_cases c19 : t109 = 0
    · rw [if_pos c19] at H
      have c19b0 : (t109 == 0) = true := beq_iff_eq.mpr c19; have c19b1 : (t109 != 0) = false := bne_eq_false_iff_eq.mpr c19; clear c19; by_cases c20 : t120 = 49
      · rw [if_pos c20] at H
        have c20b0 : (t120 == 49) = true := beq_iff_eq.mpr c20; have c20b1 : (t120 != 49) = false := bne_eq_false_iff_eq.mpr c20; clear c20; by_cases c21 : t121 = 0
        · rw [if_pos c21] at H
          have c21b0 : (t121 == 0) = true := beq_iff_eq.mpr c21; have c21b1 : (t121 != 0) = false := bne_eq_false_iff_eq.mpr c21; clear c21; obtain ⟨y182, hy182⟩ : ∃ y_ : List Int, y_ = (([55, 0] : List Int)) := ⟨_, rfl⟩
          replace H : ((backhaulref02_SameInts.f 1000 t135 y182).bind fun t185 => (if t185 = true then (if t138 = 55 then (if t139 = 0 then (if t150 = 110 then (if t151 = 0 then (if t163 = 2 then (if t181 = 2 then (some true) else (some false)) else (some false)) else (some false)) else (some false)) else (some false)) else (some false)) else (some false))) = some true := by first | (rw [hy182]; with_reducible exact H) | (have H2_ := (Option.bind_some _ _).symm.trans H; rw [hy182]; with_reducible exact H2_) | (have H2_ := (Option.bind_some _ _).symm.trans H; with_reducible exact H2_) | with_reducible exact H | (rw [hy182]; exact H) | exact H
          have Ny182 := zA hy182; clear hy182; replace H := Option.bind_eq_some_iff.mp H; obtain ⟨t185, A220, H⟩ := H; replace H : (if t185 = true then (if t138 = 55 then (if t139 = 0 then (if t150 = 110 then (if t151 = 0 then (if t163 = 2 then (if t181 = 2 then (some true) else (some false)) else (some false)) else (some false)) else (some false)) else (some false)) else (some false)) else (some false)) = some true := H; have A22 := zA A220; clear A220; by_cases c23 : t185 = true
          · subst c23
            have H1 : (if t138 = 55 then (if t139 = 0 then (if t150 = 110 then (if t151 = 0 then (if t163 = 2 then (if t181 = 2 then (some true) else (some false)) else (some false)) else (some false)) else (some false)) else (some false)) else (some false)) = some true := by first | (rw [if_pos rfl] at H; exact H) | rfl
            clear H; have H := H1; clear H1; by_cases c24 : t138 = 55
            · rw [if_pos c24] at H
              have c24b0 : (t138 == 55) = true := beq_iff_eq.mpr c24; have c24b1 : (t138 != 55) = false := bne_eq_false_iff_eq.mpr c24; clear c24; by_cases c25 : t139 = 0
              · rw [if_pos c25] at H
                have c25b0 : (t139 == 0) = true := beq_iff_eq.mpr c25; have c25b1 : (t139 != 0) = false := bne_eq_false_iff_eq.mpr c25; clear c25; by_cases c26 : t150 = 110
                · rw [if_pos c26] at H
                  have c26b0 : (t150 == 110) = true := beq_iff_eq.mpr c26; have c26b1 : (t150 != 110) = false := bne_eq_false_iff_eq.mpr c26; clear c26; by_cases c27 : t151 = 0
                  · rw [if_pos c27] at H
                    have c27b0 : (t151 == 0) = true := beq_iff_eq.mpr c27; have c27b1 : (t151 != 0) = false := bne_eq_false_iff_eq.mpr c27; clear c27; by_cases c28 : t163 = 2
                    · rw [if_pos c28] at H
                      have c28b0 : (t163 == 2) = true := beq_iff_eq.mpr c28; have c28b1 : (t163 != 2) = false := bne_eq_false_iff_eq.mpr c28; clear c28; by_cases c29 : t181 = 2
                      · rw [if_pos c29] at H
                        have c29b0 : (t181 == 2) = true := beq_iff_eq.mpr c29; have c29b1 : (t181 != 2) = false := bne_eq_false_iff_eq.mpr c29; clear c29; clear H; go_enter Try.func73, Try.ntmps73; go_wp2_with (first | ((with_reducible refine zJq (f := 121) rfl ?_); refine goesL_ (some 16) rfl rfl Try.func121 (by kernel_rfl) rfl #[] rfl (by (try simp only [zR, zS, zT]); first | done | rfl | (simp only [zP, zQ]; rfl)) ?_; (with_reducible refine (backhaullaw22_one.calls  t101 t102 t103 t104 t105 _ A1.out).mono ?_); rintro e w30 ⟨v106, rfl, ho0, hb⟩; refine ⟨_, rfl, ?_⟩; have n0_ := zA (Kd.R_lower ho0 (zW qB)); have n1_ := zA (zV qB hb); clear HB; have HO107 := n0_; have HB := n1_; clear n0_ n1_; (try clear hb); (try clear hb2); (try clear hk); (try clear hi); (try clear ho0); obtain ⟨Ao31, co31, eo31⟩ := Kd.R_slice HO107.out; subst eo31) | ((with_reducible refine zJq (f := 74) rfl ?_); refine goesL_ (some 17) rfl rfl Try.func74 (by kernel_rfl) rfl #[.agg #[.int .i64 t101, .int .i64 t102, .int .i64 t103, .int .i64 t104, .slice Ao31 t105.length co31], .int .i64 1] rfl (by (try simp only [zR, zS, zT]); first | done | rfl | (simp only [zP, zQ]; rfl)) ?_; (with_reducible refine (value_Full.calls 1000 t101 t102 t103 t104 _ _ t105 1 t108 t109 _ ?side1 ?side2 A2.out).mono ?_); (case side1 => repeat (first | exact (Kd.R_reads' HO107.out).2.2 | (with_reducible refine Kd.C_alloc ?_ _) | (with_reducible refine Kd.C_drewN ?_ _) | (with_reducible refine Kd.C_drew ?_))); (case side2 => exact (Kd.R_reads' HO107.out).2.1); rintro e w32 ⟨rfl, hb⟩; refine ⟨_, rfl, ?_⟩; have n0_ := zA (Kd.R_below (by (with_reducible repeat (first | apply Kd.R_alloc | apply Kd.R_drewN | apply Kd.R_drew)); exact HO107.out) hb); have n1_ := zA (zV qB hb); clear HO107 HB; have HO107 := n0_; have HB := n1_; clear n0_ n1_; (try clear hb); (try clear hb2); (try clear hk); (try clear hi)) | ((with_reducible refine zJq (f := 121) rfl ?_); refine goesL_ (some 21) rfl rfl Try.func121 (by kernel_rfl) rfl #[] rfl (by (try simp only [zR, zS, zT]); first | done | rfl | (simp only [zP, zQ]; rfl)) ?_; (with_reducible refine (backhaullaw22_one.calls  t110 t111 t112 t113 t114 _ A3.out).mono ?_); rintro e w33 ⟨v115, rfl, ho0, hb⟩; refine ⟨_, rfl, ?_⟩; have n0_ := zA (Kd.R_elder' (by (with_reducible repeat (first | apply Kd.R_alloc | apply Kd.R_drewN | apply Kd.R_drew)); exact HO107.out) (Kd.R_base ho0) hb); have n1_ := zA (Kd.R_lower (Kd.R_new' ho0 (Kd.R_lt (by (with_reducible repeat (first | apply Kd.R_alloc | apply Kd.R_drewN | apply Kd.R_drew)); exact HO107.out))) (zW qB)); have n2_ := zA (zV qB hb); clear HO107 HB; have HO107 := n0_; have HO116 := n1_; have HB := n2_; clear n0_ n1_ n2_; (try clear hb); (try clear hb2); (try clear hk); (try clear hi); (try clear ho0)) | ((with_reducible refine zJq (f := 122) rfl ?_); refine goesL_ (some 22) rfl rfl Try.func122 (by kernel_rfl) rfl #[] rfl (by (try simp only [zR, zS, zT]); first | done | rfl | (simp only [zP, zQ]; rfl)) ?_; (with_reducible refine (backhaullaw22_fees.calls  t117 _ A4.out).mono ?_); rintro e w34 ⟨v118, rfl, ho0, hb⟩; refine ⟨_, rfl, ?_⟩; have n0_ := zA (Kd.R_below (by (with_reducible repeat (first | apply Kd.R_alloc | apply Kd.R_drewN | apply Kd.R_drew)); exact HO107.out) hb); have n1_ := zA (Kd.R_below (by (with_reducible repeat (first | apply Kd.R_alloc | apply Kd.R_drewN | apply Kd.R_drew)); exact HO116.out) hb); have n2_ := zA (Kd.R_lower ho0 (zW qB)); have n3_ := zA (zV qB hb); clear HO107 HO116 HB; have HO107 := n0_; have HO116 := n1_; have HO119 := n2_; have HB := n3_; clear n0_ n1_ n2_ n3_; (try clear hb); (try clear hb2); (try clear hk); (try clear hi); (try clear ho0); obtain ⟨Ao35, co35, eo35⟩ := Kd.R_slice HO116.out; subst eo35; obtain ⟨Ao36, co36, eo36⟩ := Kd.R_slice HO119.out; subst eo36) | ((with_reducible refine zJq (f := 76) rfl ?_); refine goesL_ (some 23) rfl rfl Try.func76 (by kernel_rfl) rfl #[.agg #[.int .i64 t110, .int .i64 t111, .int .i64 t112, .int .i64 t113, .slice Ao35 t114.length co35], .int .i64 1, .slice Ao36 t117.length co36, .int .i64 1] rfl (by (try simp only [zR, zS, zT]); first | done | rfl | (simp only [zP, zQ]; rfl)) ?_; (with_reducible refine (value_Of.calls 1000 t110 t111 t112 t113 _ _ t114 1 _ _ t117 1 t120 t121 _ ?side1 ?side2 ?side3 ?side4 A5.out).mono ?_); (case side1 => repeat (first | exact (Kd.R_reads' HO116.out).2.2 | (with_reducible refine Kd.C_alloc ?_ _) | (with_reducible refine Kd.C_drewN ?_ _) | (with_reducible refine Kd.C_drew ?_))); (case side2 => exact (Kd.R_reads' HO116.out).2.1); (case side3 => repeat (first | exact (Kd.R_reads' HO119.out).2.2 | (with_reducible refine Kd.C_alloc ?_ _) | (with_reducible refine Kd.C_drewN ?_ _) | (with_reducible refine Kd.C_drew ?_))); (case side4 => exact (Kd.R_reads' HO119.out).2.1); rintro e w37 ⟨rfl, hb⟩; refine ⟨_, rfl, ?_⟩; have n0_ := zA (Kd.R_below (by (with_reducible repeat (first | apply Kd.R_alloc | apply Kd.R_drewN | apply Kd.R_drew)); exact HO107.out) hb); have n1_ := zA (Kd.R_below (by (with_reducible repeat (first | apply Kd.R_alloc | apply Kd.R_drewN | apply Kd.R_drew)); exact HO116.out) hb); have n2_ := zA (Kd.R_below (by (with_reducible repeat (first | apply Kd.R_alloc | apply Kd.R_drewN | apply Kd.R_drew)); exact HO119.out) hb); have n3_ := zA (zV qB hb); clear HO107 HO116 HO119 HB; have HO107 := n0_; have HO116 := n1_; have HO119 := n2_; have HB := n3_; clear n0_ n1_ n2_ n3_; (try clear hb); (try clear hb2); (try clear hk); (try clear hi)) | ((with_reducible refine zJq (f := 121) rfl ?_); refine goesL_ (some 27) rfl rfl Try.func121 (by kernel_rfl) rfl #[] rfl (by (try simp only [zR, zS, zT]); first | done | rfl | (simp only [zP, zQ]; rfl)) ?_; (with_reducible refine (backhaullaw22_one.calls  t122 t123 t124 t125 t126 _ A6.out).mono ?_); rintro e w38 ⟨v127, rfl, ho0, hb⟩; refine ⟨_, rfl, ?_⟩; have n0_ := zA (Kd.R_elder' (by (with_reducible repeat (first | apply Kd.R_alloc | apply Kd.R_drewN | apply Kd.R_drew)); exact HO107.out) (Kd.R_base ho0) hb); have n1_ := zA (Kd.R_elder' (by (with_reducible repeat (first | apply Kd.R_alloc | apply Kd.R_drewN | apply Kd.R_drew)); exact HO116.out) (Kd.R_base ho0) hb); have n2_ := zA (Kd.R_below (by (with_reducible repeat (first | apply Kd.R_alloc | apply Kd.R_drewN | apply Kd.R_drew)); exact HO119.out) hb); have n3_ := zA (Kd.R_lower (Kd.R_new' (Kd.R_new' ho0 (Kd.R_lt (by (with_reducible repeat (first | apply Kd.R_alloc | apply Kd.R_drewN | apply Kd.R_drew)); exact HO107.out))) (Kd.R_lt (by (with_reducible repeat (first | apply Kd.R_alloc | apply Kd.R_drewN | apply Kd.R_drew)); exact HO116.out))) (zW qB)); have n4_ := zA (zV qB hb); clear HO107 HO116 HO119 HB; have HO107 := n0_; have HO116 := n1_; have HO119 := n2_; have HO128 := n3_; have HB := n4_; clear n0_ n1_ n2_ n3_ n4_; (try clear hb); (try clear hb2); (try clear hk); (try clear hi); (try clear ho0)) | ((with_reducible refine zJq (f := 122) rfl ?_); refine goesL_ (some 28) rfl rfl Try.func122 (by kernel_rfl) rfl #[] rfl (by (try simp only [zR, zS, zT]); first | done | rfl | (simp only [zP, zQ]; rfl)) ?_; (with_reducible refine (backhaullaw22_fees.calls  t129 _ A7.out).mono ?_); rintro e w39 ⟨v130, rfl, ho0, hb⟩; refine ⟨_, rfl, ?_⟩; have n0_ := zA (Kd.R_below (by (with_reducible repeat (first | apply Kd.R_alloc | apply Kd.R_drewN | apply Kd.R_drew)); exact HO107.out) hb); have n1_ := zA (Kd.R_below (by (with_reducible repeat (first | apply Kd.R_alloc | apply Kd.R_drewN | apply Kd.R_drew)); exact HO116.out) hb); have n2_ := zA (Kd.R_elder' (by (with_reducible repeat (first | apply Kd.R_alloc | apply Kd.R_drewN | apply Kd.R_drew)); exact HO119.out) (Kd.R_base ho0) hb); have n3_ := zA (Kd.R_below (by (with_reducible repeat (first | apply Kd.R_alloc | apply Kd.R_drewN | apply Kd.R_drew)); exact HO128.out) hb); have n4_ := zA (Kd.R_lower (Kd.R_new' ho0 (Kd.R_lt (by (with_reducible repeat (first | apply Kd.R_alloc | apply Kd.R_drewN | apply Kd.R_drew)); exact HO119.out))) (zW qB)); have n5_ := zA (zV qB hb); clear HO107 HO116 HO119 HO128 HB; have HO107 := n0_; have HO116 := n1_; have HO119 := n2_; have HO128 := n3_; have HO131 := n4_; have HB := n5_; clear n0_ n1_ n2_ n3_ n4_ n5_; (try clear hb); (try clear hb2); (try clear hk); (try clear hi); (try clear ho0)) | ((with_reducible refine gate_dst (N := 29) rfl ?_); (try (refine gate_guard (by rfl) ?_; dsimp only)); refine Kd.R_lit (Kd.int .i64) _ 3 ?hg (N := 29) ?hd (xs := ([0, 3] : List Int)) (inner := [.int .i64 0, .int .i64 3]) (ok := fun _ => True) (okp := fun _ => True) ?hr ?hp (fun _ hk => hk) trivial (Below.refl _ _) (Nat.le_refl _) (by simp) ?_; (case hd => rfl); (case hg => rfl); (case hr => first | (go_simp; done) | (go_simp; rfl)); (case hp => exact (Reps.one (show Kd.M (Kd.int .i64) _ _ _ 0 [.int .i64 0] from rfl) (Reps.one (show Kd.M (Kd.int .i64) _ _ _ 3 [.int .i64 3] from rfl) (Reps.none _ _)))); intro v133 w40 ho41 hb hg_ hnew_; clear hg_ hnew_; (first | rw [← Ny132.out] at ho41 | (simp only [Int.reduceToNat] at ho41; rw [← Ny132.out] at ho41)); have n0_ := zA (Kd.R_below (by (with_reducible repeat (first | apply Kd.R_alloc | apply Kd.R_drewN | apply Kd.R_drew)); exact HO107.out) hb); have n1_ := zA (Kd.R_below (by (with_reducible repeat (first | apply Kd.R_alloc | apply Kd.R_drewN | apply Kd.R_drew)); exact HO116.out) hb); have n2_ := zA (Kd.R_elder' (by (with_reducible repeat (first | apply Kd.R_alloc | apply Kd.R_drewN | apply Kd.R_drew)); exact HO119.out) (Kd.R_base ho41) hb); have n3_ := zA (Kd.R_below (by (with_reducible repeat (first | apply Kd.R_alloc | apply Kd.R_drewN | apply Kd.R_drew)); exact HO128.out) hb); have n4_ := zA (Kd.R_elder' (by (with_reducible repeat (first | apply Kd.R_alloc | apply Kd.R_drewN | apply Kd.R_drew)); exact HO131.out) (Kd.R_base ho41) hb); have n5_ := zA (Kd.R_lower (Kd.R_new' (Kd.R_new' ho41 (Kd.R_lt (by (with_reducible repeat (first | apply Kd.R_alloc | apply Kd.R_drewN | apply Kd.R_drew)); exact HO119.out))) (Kd.R_lt (by (with_reducible repeat (first | apply Kd.R_alloc | apply Kd.R_drewN | apply Kd.R_drew)); exact HO131.out))) (zW qB)); have n6_ := zA (zV qB hb); clear HO107 HO116 HO119 HO128 HO131 HB; have HO107 := n0_; have HO116 := n1_; have HO119 := n2_; have HO128 := n3_; have HO131 := n4_; have HO134 := n5_; have HB := n6_; clear n0_ n1_ n2_ n3_ n4_ n5_ n6_ hb ho41; obtain ⟨Ao42, co42, eo42⟩ := Kd.R_slice HO128.out; subst eo42; obtain ⟨Ao43, co43, eo43⟩ := Kd.R_slice HO131.out; subst eo43; obtain ⟨Ao44, co44, eo44⟩ := Kd.R_slice HO134.out; subst eo44) | ((with_reducible refine zJq (f := 78) rfl ?_); refine goesL_ (some 30) rfl rfl Try.func78 (by kernel_rfl) rfl #[.agg #[.int .i64 t122, .int .i64 t123, .int .i64 t124, .int .i64 t125, .slice Ao42 t126.length co42], .slice Ao43 t129.length co43, .slice Ao44 y132.length co44] rfl (by (try simp only [zR, zS, zT]); first | done | rfl | (simp only [zP, zQ]; rfl)) ?_; (with_reducible refine (value_All.calls 1000 t122 t123 t124 t125 _ _ t126 _ _ t129 _ _ y132 t135 t138 t139 _ ?side1 ?side2 ?side3 ?side4 ?side5 ?side6 A8.out).mono ?_); (case side1 => repeat (first | exact (Kd.R_reads' HO128.out).2.2 | (with_reducible refine Kd.C_alloc ?_ _) | (with_reducible refine Kd.C_drewN ?_ _) | (with_reducible refine Kd.C_drew ?_))); (case side2 => exact (Kd.R_reads' HO128.out).2.1); (case side3 => repeat (first | exact (Kd.R_reads' HO131.out).2.2 | (with_reducible refine Kd.C_alloc ?_ _) | (with_reducible refine Kd.C_drewN ?_ _) | (with_reducible refine Kd.C_drew ?_))); (case side4 => exact (Kd.R_reads' HO131.out).2.1); (case side5 => repeat (first | exact (Kd.R_reads' HO134.out).2.2 | (with_reducible refine Kd.C_alloc ?_ _) | (with_reducible refine Kd.C_drewN ?_ _) | (with_reducible refine Kd.C_drew ?_))); (case side6 => exact (Kd.R_reads' HO134.out).2.1); rintro e w45 ⟨v136, rfl, ho0, hb⟩; refine ⟨_, rfl, ?_⟩; have n0_ := zA (Kd.R_below (by (with_reducible repeat (first | apply Kd.R_alloc | apply Kd.R_drewN | apply Kd.R_drew)); exact HO107.out) hb); have n1_ := zA (Kd.R_below (by (with_reducible repeat (first | apply Kd.R_alloc | apply Kd.R_drewN | apply Kd.R_drew)); exact HO116.out) hb); have n2_ := zA (Kd.R_elder' (by (with_reducible repeat (first | apply Kd.R_alloc | apply Kd.R_drewN | apply Kd.R_drew)); exact HO119.out) (Kd.R_base ho0) hb); have n3_ := zA (Kd.R_below (by (with_reducible repeat (first | apply Kd.R_alloc | apply Kd.R_drewN | apply Kd.R_drew)); exact HO128.out) hb); have n4_ := zA (Kd.R_elder' (by (with_reducible repeat (first | apply Kd.R_alloc | apply Kd.R_drewN | apply Kd.R_drew)); exact HO131.out) (Kd.R_base ho0) hb); have n5_ := zA (Kd.R_elder' (by (with_reducible repeat (first | apply Kd.R_alloc | apply Kd.R_drewN | apply Kd.R_drew)); exact HO134.out) (Kd.R_base ho0) hb); have n6_ := zA (Kd.R_lower (Kd.R_new' (Kd.R_new' (Kd.R_new' ho0 (Kd.R_lt (by (with_reducible repeat (first | apply Kd.R_alloc | apply Kd.R_drewN | apply Kd.R_drew)); exact HO119.out))) (Kd.R_lt (by (with_reducible repeat (first | apply Kd.R_alloc | apply Kd.R_drewN | apply Kd.R_drew)); exact HO131.out))) (Kd.R_lt (by (with_reducible repeat (first | apply Kd.R_alloc | apply Kd.R_drewN | apply Kd.R_drew)); exact HO134.out))) (zW qB)); have n7_ := zA (zV qB hb); clear HO107 HO116 HO119 HO128 HO131 HO134 HB; have HO107 := n0_; have HO116 := n1_; have HO119 := n2_; have HO128 := n3_; have HO131 := n4_; have HO134 := n5_; have HO137 := n6_; have HB := n7_; clear n0_ n1_ n2_ n3_ n4_ n5_ n6_ n7_; (try clear hb); (try clear hb2); (try clear hk); (try clear hi); (try clear ho0)) | ((with_reducible refine zJq (f := 121) rfl ?_); refine goesL_ (some 35) rfl rfl Try.func121 (by kernel_rfl) rfl #[] rfl (by (try simp only [zR, zS, zT]); first | done | rfl | (simp only [zP, zQ]; rfl)) ?_; (with_reducible refine (backhaullaw22_one.calls  t140 t141 t142 t143 t144 _ A9.out).mono ?_); rintro e w46 ⟨v145, rfl, ho0, hb⟩; refine ⟨_, rfl, ?_⟩; have n0_ := zA (Kd.R_elder' (by (with_reducible repeat (first | apply Kd.R_alloc | apply Kd.R_drewN | apply Kd.R_drew)); exact HO107.out) (Kd.R_base ho0) hb); have n1_ := zA (Kd.R_elder' (by (with_reducible repeat (first | apply Kd.R_alloc | apply Kd.R_drewN | apply Kd.R_drew)); exact HO116.out) (Kd.R_base ho0) hb); have n2_ := zA (Kd.R_below (by (with_reducible repeat (first | apply Kd.R_alloc | apply Kd.R_drewN | apply Kd.R_drew)); exact HO119.out) hb); have n3_ := zA (Kd.R_elder' (by (with_reducible repeat (first | apply Kd.R_alloc | apply Kd.R_drewN | apply Kd.R_drew)); exact HO128.out) (Kd.R_base ho0) hb); have n4_ := zA (Kd.R_below (by (with_reducible repeat (first | apply Kd.R_alloc | apply Kd.R_drewN | apply Kd.R_drew)); exact HO131.out) hb); have n5_ := zA (Kd.R_below (by (with_reducible repeat (first | apply Kd.R_alloc | apply Kd.R_drewN | apply Kd.R_drew)); exact HO134.out) hb); have n6_ := zA (Kd.R_below (by (with_reducible repeat (first | apply Kd.R_alloc | apply Kd.R_drewN | apply Kd.R_drew)); exact HO137.out) hb); have n7_ := zA (Kd.R_lower (Kd.R_new' (Kd.R_new' (Kd.R_new' ho0 (Kd.R_lt (by (with_reducible repeat (first | apply Kd.R_alloc | apply Kd.R_drewN | apply Kd.R_drew)); exact HO107.out))) (Kd.R_lt (by (with_reducible repeat (first | apply Kd.R_alloc | apply Kd.R_drewN | apply Kd.R_drew)); exact HO116.out))) (Kd.R_lt (by (with_reducible repeat (first | apply Kd.R_alloc | apply Kd.R_drewN | apply Kd.R_drew)); exact HO128.out))) (zW qB)); have n8_ := zA (zV qB hb); clear HO107 HO116 HO119 HO128 HO131 HO134 HO137 HB; have HO107 := n0_; have HO116 := n1_; have HO119 := n2_; have HO128 := n3_; have HO131 := n4_; have HO134 := n5_; have HO137 := n6_; have HO146 := n7_; have HB := n8_; clear n0_ n1_ n2_ n3_ n4_ n5_ n6_ n7_ n8_; (try clear hb); (try clear hb2); (try clear hk); (try clear hi); (try clear ho0)) | ((with_reducible refine zJq (f := 122) rfl ?_); refine goesL_ (some 36) rfl rfl Try.func122 (by kernel_rfl) rfl #[] rfl (by (try simp only [zR, zS, zT]); first | done | rfl | (simp only [zP, zQ]; rfl)) ?_; (with_reducible refine (backhaullaw22_fees.calls  t147 _ A10.out).mono ?_); rintro e w47 ⟨v148, rfl, ho0, hb⟩; refine ⟨_, rfl, ?_⟩; have n0_ := zA (Kd.R_below (by (with_reducible repeat (first | apply Kd.R_alloc | apply Kd.R_drewN | apply Kd.R_drew)); exact HO107.out) hb); have n1_ := zA (Kd.R_below (by (with_reducible repeat (first | apply Kd.R_alloc | apply Kd.R_drewN | apply Kd.R_drew)); exact HO116.out) hb); have n2_ := zA (Kd.R_elder' (by (with_reducible repeat (first | apply Kd.R_alloc | apply Kd.R_drewN | apply Kd.R_drew)); exact HO119.out) (Kd.R_base ho0) hb); have n3_ := zA (Kd.R_below (by (with_reducible repeat (first | apply Kd.R_alloc | apply Kd.R_drewN | apply Kd.R_drew)); exact HO128.out) hb); have n4_ := zA (Kd.R_elder' (by (with_reducible repeat (first | apply Kd.R_alloc | apply Kd.R_drewN | apply Kd.R_drew)); exact HO131.out) (Kd.R_base ho0) hb); have n5_ := zA (Kd.R_elder' (by (with_reducible repeat (first | apply Kd.R_alloc | apply Kd.R_drewN | apply Kd.R_drew)); exact HO134.out) (Kd.R_base ho0) hb); have n6_ := zA (Kd.R_elder' (by (with_reducible repeat (first | apply Kd.R_alloc | apply Kd.R_drewN | apply Kd.R_drew)); exact HO137.out) (Kd.R_base ho0) hb); have n7_ := zA (Kd.R_below (by (with_reducible repeat (first | apply Kd.R_alloc | apply Kd.R_drewN | apply Kd.R_drew)); exact HO146.out) hb); have n8_ := zA (Kd.R_lower (Kd.R_new' (Kd.R_new' (Kd.R_new' (Kd.R_new' ho0 (Kd.R_lt (by (with_reducible repeat (first | apply Kd.R_alloc | apply Kd.R_drewN | apply Kd.R_drew)); exact HO119.out))) (Kd.R_lt (by (with_reducible repeat (first | apply Kd.R_alloc | apply Kd.R_drewN | apply Kd.R_drew)); exact HO131.out))) (Kd.R_lt (by (with_reducible repeat (first | apply Kd.R_alloc | apply Kd.R_drewN | apply Kd.R_drew)); exact HO134.out))) (Kd.R_lt (by (with_reducible repeat (first | apply Kd.R_alloc | apply Kd.R_drewN | apply Kd.R_drew)); exact HO137.out))) (zW qB)); have n9_ := zA (zV qB hb); clear HO107 HO116 HO119 HO128 HO131 HO134 HO137 HO146 HB; have HO107 := n0_; have HO116 := n1_; have HO119 := n2_; have HO128 := n3_; have HO131 := n4_; have HO134 := n5_; have HO137 := n6_; have HO146 := n7_; have HO149 := n8_; have HB := n9_; clear n0_ n1_ n2_ n3_ n4_ n5_ n6_ n7_ n8_ n9_; (try clear hb); (try clear hb2); (try clear hk); (try clear hi); (try clear ho0); obtain ⟨Ao48, co48, eo48⟩ := Kd.R_slice HO146.out; subst eo48; obtain ⟨Ao49, co49, eo49⟩ := Kd.R_slice HO149.out; subst eo49) | ((with_reducible refine zJq (f := 80) rfl ?_); refine goesL_ (some 37) rfl rfl Try.func80 (by kernel_rfl) rfl #[.agg #[.int .i64 t140, .int .i64 t141, .int .i64 t142, .int .i64 t143, .slice Ao48 t144.length co48], .slice Ao49 t147.length co49] rfl (by (try simp only [zR, zS, zT]); first | done | rfl | (simp only [zP, zQ]; rfl)) ?_; (with_reducible refine (value_Most.calls 1000 t140 t141 t142 t143 _ _ t144 _ _ t147 t150 t151 _ ?side1 ?side2 ?side3 ?side4 A11.out).mono ?_); (case side1 => repeat (first | exact (Kd.R_reads' HO146.out).2.2 | (with_reducible refine Kd.C_alloc ?_ _) | (with_reducible refine Kd.C_drewN ?_ _) | (with_reducible refine Kd.C_drew ?_))); (case side2 => exact (Kd.R_reads' HO146.out).2.1); (case side3 => repeat (first | exact (Kd.R_reads' HO149.out).2.2 | (with_reducible refine Kd.C_alloc ?_ _) | (with_reducible refine Kd.C_drewN ?_ _) | (with_reducible refine Kd.C_drew ?_))); (case side4 => exact (Kd.R_reads' HO149.out).2.1); rintro e w50 ⟨rfl, hb⟩; refine ⟨_, rfl, ?_⟩; have n0_ := zA (Kd.R_below (by (with_reducible repeat (first | apply Kd.R_alloc | apply Kd.R_drewN | apply Kd.R_drew)); exact HO107.out) hb); have n1_ := zA (Kd.R_below (by (with_reducible repeat (first | apply Kd.R_alloc | apply Kd.R_drewN | apply Kd.R_drew)); exact HO116.out) hb); have n2_ := zA (Kd.R_below (by (with_reducible repeat (first | apply Kd.R_alloc | apply Kd.R_drewN | apply Kd.R_drew)); exact HO119.out) hb); have n3_ := zA (Kd.R_below (by (with_reducible repeat (first | apply Kd.R_alloc | apply Kd.R_drewN | apply Kd.R_drew)); exact HO128.out) hb); have n4_ := zA (Kd.R_below (by (with_reducible repeat (first | apply Kd.R_alloc | apply Kd.R_drewN | apply Kd.R_drew)); exact HO131.out) hb); have n5_ := zA (Kd.R_below (by (with_reducible repeat (first | apply Kd.R_alloc | apply Kd.R_drewN | apply Kd.R_drew)); exact HO134.out) hb); have n6_ := zA (Kd.R_below (by (with_reducible repeat (first | apply Kd.R_alloc | apply Kd.R_drewN | apply Kd.R_drew)); exact HO137.out) hb); have n7_ := zA (Kd.R_below (by (with_reducible repeat (first | apply Kd.R_alloc | apply Kd.R_drewN | apply Kd.R_drew)); exact HO146.out) hb); have n8_ := zA (Kd.R_below (by (with_reducible repeat (first | apply Kd.R_alloc | apply Kd.R_drewN | apply Kd.R_drew)); exact HO149.out) hb); have n9_ := zA (zV qB hb); clear HO107 HO116 HO119 HO128 HO131 HO134 HO137 HO146 HO149 HB; have HO107 := n0_; have HO116 := n1_; have HO119 := n2_; have HO128 := n3_; have HO131 := n4_; have HO134 := n5_; have HO137 := n6_; have HO146 := n7_; have HO149 := n8_; have HB := n9_; clear n0_ n1_ n2_ n3_ n4_ n5_ n6_ n7_ n8_ n9_; (try clear hb); (try clear hb2); (try clear hk); (try clear hi)) | ((with_reducible refine zJq (f := 121) rfl ?_); refine goesL_ (some 41) rfl rfl Try.func121 (by kernel_rfl) rfl #[] rfl (by (try simp only [zR, zS, zT]); first | done | rfl | (simp only [zP, zQ]; rfl)) ?_; (with_reducible refine (backhaullaw22_one.calls  t152 t153 t154 t155 t156 _ A12.out).mono ?_); rintro e w51 ⟨v157, rfl, ho0, hb⟩; refine ⟨_, rfl, ?_⟩; have n0_ := zA (Kd.R_elder' (by (with_reducible repeat (first | apply Kd.R_alloc | apply Kd.R_drewN | apply Kd.R_drew)); exact HO107.out) (Kd.R_base ho0) hb); have n1_ := zA (Kd.R_elder' (by (with_reducible repeat (first | apply Kd.R_alloc | apply Kd.R_drewN | apply Kd.R_drew)); exact HO116.out) (Kd.R_base ho0) hb); have n2_ := zA (Kd.R_below (by (with_reducible repeat (first | apply Kd.R_alloc | apply Kd.R_drewN | apply Kd.R_drew)); exact HO119.out) hb); have n3_ := zA (Kd.R_elder' (by (with_reducible repeat (first | apply Kd.R_alloc | apply Kd.R_drewN | apply Kd.R_drew)); exact HO128.out) (Kd.R_base ho0) hb); have n4_ := zA (Kd.R_below (by (with_reducible repeat (first | apply Kd.R_alloc | apply Kd.R_drewN | apply Kd.R_drew)); exact HO131.out) hb); have n5_ := zA (Kd.R_below (by (with_reducible repeat (first | apply Kd.R_alloc | apply Kd.R_drewN | apply Kd.R_drew)); exact HO134.out) hb); have n6_ := zA (Kd.R_below (by (with_reducible repeat (first | apply Kd.R_alloc | apply Kd.R_drewN | apply Kd.R_drew)); exact HO137.out) hb); have n7_ := zA (Kd.R_elder' (by (with_reducible repeat (first | apply Kd.R_alloc | apply Kd.R_drewN | apply Kd.R_drew)); exact HO146.out) (Kd.R_base ho0) hb); have n8_ := zA (Kd.R_below (by (with_reducible repeat (first | apply Kd.R_alloc | apply Kd.R_drewN | apply Kd.R_drew)); exact HO149.out) hb); have n9_ := zA (Kd.R_lower (Kd.R_new' (Kd.R_new' (Kd.R_new' (Kd.R_new' ho0 (Kd.R_lt (by (with_reducible repeat (first | apply Kd.R_alloc | apply Kd.R_drewN | apply Kd.R_drew)); exact HO107.out))) (Kd.R_lt (by (with_reducible repeat (first | apply Kd.R_alloc | apply Kd.R_drewN | apply Kd.R_drew)); exact HO116.out))) (Kd.R_lt (by (with_reducible repeat (first | apply Kd.R_alloc | apply Kd.R_drewN | apply Kd.R_drew)); exact HO128.out))) (Kd.R_lt (by (with_reducible repeat (first | apply Kd.R_alloc | apply Kd.R_drewN | apply Kd.R_drew)); exact HO146.out))) (zW qB)); have n10_ := zA (zV qB hb); clear HO107 HO116 HO119 HO128 HO131 HO134 HO137 HO146 HO149 HB; have HO107 := n0_; have HO116 := n1_; have HO119 := n2_; have HO128 := n3_; have HO131 := n4_; have HO134 := n5_; have HO137 := n6_; have HO146 := n7_; have HO149 := n8_; have HO158 := n9_; have HB := n10_; clear n0_ n1_ n2_ n3_ n4_ n5_ n6_ n7_ n8_ n9_ n10_; (try clear hb); (try clear hb2); (try clear hk); (try clear hi); (try clear ho0)) | ((with_reducible refine zJq (f := 122) rfl ?_); refine goesL_ (some 42) rfl rfl Try.func122 (by kernel_rfl) rfl #[] rfl (by (try simp only [zR, zS, zT]); first | done | rfl | (simp only [zP, zQ]; rfl)) ?_; (with_reducible refine (backhaullaw22_fees.calls  t159 _ A13.out).mono ?_); rintro e w52 ⟨v160, rfl, ho0, hb⟩; refine ⟨_, rfl, ?_⟩; have n0_ := zA (Kd.R_below (by (with_reducible repeat (first | apply Kd.R_alloc | apply Kd.R_drewN | apply Kd.R_drew)); exact HO107.out) hb); have n1_ := zA (Kd.R_below (by (with_reducible repeat (first | apply Kd.R_alloc | apply Kd.R_drewN | apply Kd.R_drew)); exact HO116.out) hb); have n2_ := zA (Kd.R_elder' (by (with_reducible repeat (first | apply Kd.R_alloc | apply Kd.R_drewN | apply Kd.R_drew)); exact HO119.out) (Kd.R_base ho0) hb); have n3_ := zA (Kd.R_below (by (with_reducible repeat (first | apply Kd.R_alloc | apply Kd.R_drewN | apply Kd.R_drew)); exact HO128.out) hb); have n4_ := zA (Kd.R_elder' (by (with_reducible repeat (first | apply Kd.R_alloc | apply Kd.R_drewN | apply Kd.R_drew)); exact HO131.out) (Kd.R_base ho0) hb); have n5_ := zA (Kd.R_elder' (by (with_reducible repeat (first | apply Kd.R_alloc | apply Kd.R_drewN | apply Kd.R_drew)); exact HO134.out) (Kd.R_base ho0) hb); have n6_ := zA (Kd.R_elder' (by (with_reducible repeat (first | apply Kd.R_alloc | apply Kd.R_drewN | apply Kd.R_drew)); exact HO137.out) (Kd.R_base ho0) hb); have n7_ := zA (Kd.R_below (by (with_reducible repeat (first | apply Kd.R_alloc | apply Kd.R_drewN | apply Kd.R_drew)); exact HO146.out) hb); have n8_ := zA (Kd.R_elder' (by (with_reducible repeat (first | apply Kd.R_alloc | apply Kd.R_drewN | apply Kd.R_drew)); exact HO149.out) (Kd.R_base ho0) hb); have n9_ := zA (Kd.R_below (by (with_reducible repeat (first | apply Kd.R_alloc | apply Kd.R_drewN | apply Kd.R_drew)); exact HO158.out) hb); have n10_ := zA (Kd.R_lower (Kd.R_new' (Kd.R_new' (Kd.R_new' (Kd.R_new' (Kd.R_new' ho0 (Kd.R_lt (by (with_reducible repeat (first | apply Kd.R_alloc | apply Kd.R_drewN | apply Kd.R_drew)); exact HO119.out))) (Kd.R_lt (by (with_reducible repeat (first | apply Kd.R_alloc | apply Kd.R_drewN | apply Kd.R_drew)); exact HO131.out))) (Kd.R_lt (by (with_reducible repeat (first | apply Kd.R_alloc | apply Kd.R_drewN | apply Kd.R_drew)); exact HO134.out))) (Kd.R_lt (by (with_reducible repeat (first | apply Kd.R_alloc | apply Kd.R_drewN | apply Kd.R_drew)); exact HO137.out))) (Kd.R_lt (by (with_reducible repeat (first | apply Kd.R_alloc | apply Kd.R_drewN | apply Kd.R_drew)); exact HO149.out))) (zW qB)); have n11_ := zA (zV qB hb); clear HO107 HO116 HO119 HO128 HO131 HO134 HO137 HO146 HO149 HO158 HB; have HO107 := n0_; have HO116 := n1_; have HO119 := n2_; have HO128 := n3_; have HO131 := n4_; have HO134 := n5_; have HO137 := n6_; have HO146 := n7_; have HO149 := n8_; have HO158 := n9_; have HO161 := n10_; have HB := n11_; clear n0_ n1_ n2_ n3_ n4_ n5_ n6_ n7_ n8_ n9_ n10_ n11_; (try clear hb); (try clear hb2); (try clear hk); (try clear hi); (try clear ho0); obtain ⟨Ao53, co53, eo53⟩ := Kd.R_slice HO158.out; subst eo53; obtain ⟨Ao54, co54, eo54⟩ := Kd.R_slice HO161.out; subst eo54) | ((with_reducible refine zJq (f := 76) rfl ?_); refine goesL_ (some 43) rfl rfl Try.func76 (by kernel_rfl) rfl #[.agg #[.int .i64 t152, .int .i64 t153, .int .i64 t154, .int .i64 t155, .slice Ao53 t156.length co53], .int .i64 2, .slice Ao54 t159.length co54, .int .i64 1] rfl (by (try simp only [zR, zS, zT]); first | done | rfl | (simp only [zP, zQ]; rfl)) ?_; (with_reducible refine (value_Of.calls 1000 t152 t153 t154 t155 _ _ t156 2 _ _ t159 1 t162 t163 _ ?side1 ?side2 ?side3 ?side4 A14.out).mono ?_); (case side1 => repeat (first | exact (Kd.R_reads' HO158.out).2.2 | (with_reducible refine Kd.C_alloc ?_ _) | (with_reducible refine Kd.C_drewN ?_ _) | (with_reducible refine Kd.C_drew ?_))); (case side2 => exact (Kd.R_reads' HO158.out).2.1); (case side3 => repeat (first | exact (Kd.R_reads' HO161.out).2.2 | (with_reducible refine Kd.C_alloc ?_ _) | (with_reducible refine Kd.C_drewN ?_ _) | (with_reducible refine Kd.C_drew ?_))); (case side4 => exact (Kd.R_reads' HO161.out).2.1); rintro e w55 ⟨rfl, hb⟩; refine ⟨_, rfl, ?_⟩; have n0_ := zA (Kd.R_below (by (with_reducible repeat (first | apply Kd.R_alloc | apply Kd.R_drewN | apply Kd.R_drew)); exact HO107.out) hb); have n1_ := zA (Kd.R_below (by (with_reducible repeat (first | apply Kd.R_alloc | apply Kd.R_drewN | apply Kd.R_drew)); exact HO116.out) hb); have n2_ := zA (Kd.R_below (by (with_reducible repeat (first | apply Kd.R_alloc | apply Kd.R_drewN | apply Kd.R_drew)); exact HO119.out) hb); have n3_ := zA (Kd.R_below (by (with_reducible repeat (first | apply Kd.R_alloc | apply Kd.R_drewN | apply Kd.R_drew)); exact HO128.out) hb); have n4_ := zA (Kd.R_below (by (with_reducible repeat (first | apply Kd.R_alloc | apply Kd.R_drewN | apply Kd.R_drew)); exact HO131.out) hb); have n5_ := zA (Kd.R_below (by (with_reducible repeat (first | apply Kd.R_alloc | apply Kd.R_drewN | apply Kd.R_drew)); exact HO134.out) hb); have n6_ := zA (Kd.R_below (by (with_reducible repeat (first | apply Kd.R_alloc | apply Kd.R_drewN | apply Kd.R_drew)); exact HO137.out) hb); have n7_ := zA (Kd.R_below (by (with_reducible repeat (first | apply Kd.R_alloc | apply Kd.R_drewN | apply Kd.R_drew)); exact HO146.out) hb); have n8_ := zA (Kd.R_below (by (with_reducible repeat (first | apply Kd.R_alloc | apply Kd.R_drewN | apply Kd.R_drew)); exact HO149.out) hb); have n9_ := zA (Kd.R_below (by (with_reducible repeat (first | apply Kd.R_alloc | apply Kd.R_drewN | apply Kd.R_drew)); exact HO158.out) hb); have n10_ := zA (Kd.R_below (by (with_reducible repeat (first | apply Kd.R_alloc | apply Kd.R_drewN | apply Kd.R_drew)); exact HO161.out) hb); have n11_ := zA (zV qB hb); clear HO107 HO116 HO119 HO128 HO131 HO134 HO137 HO146 HO149 HO158 HO161 HB; have HO107 := n0_; have HO116 := n1_; have HO119 := n2_; have HO128 := n3_; have HO131 := n4_; have HO134 := n5_; have HO137 := n6_; have HO146 := n7_; have HO149 := n8_; have HO158 := n9_; have HO161 := n10_; have HB := n11_; clear n0_ n1_ n2_ n3_ n4_ n5_ n6_ n7_ n8_ n9_ n10_ n11_; (try clear hb); (try clear hb2); (try clear hk); (try clear hi)) | ((with_reducible refine zJq (f := 121) rfl ?_); refine goesL_ (some 47) rfl rfl Try.func121 (by kernel_rfl) rfl #[] rfl (by (try simp only [zR, zS, zT]); first | done | rfl | (simp only [zP, zQ]; rfl)) ?_; (with_reducible refine (backhaullaw22_one.calls  t164 t165 t166 t167 t168 _ A15.out).mono ?_); rintro e w56 ⟨v169, rfl, ho0, hb⟩; refine ⟨_, rfl, ?_⟩; have n0_ := zA (Kd.R_elder' (by (with_reducible repeat (first | apply Kd.R_alloc | apply Kd.R_drewN | apply Kd.R_drew)); exact HO107.out) (Kd.R_base ho0) hb); have n1_ := zA (Kd.R_elder' (by (with_reducible repeat (first | apply Kd.R_alloc | apply Kd.R_drewN | apply Kd.R_drew)); exact HO116.out) (Kd.R_base ho0) hb); have n2_ := zA (Kd.R_below (by (with_reducible repeat (first | apply Kd.R_alloc | apply Kd.R_drewN | apply Kd.R_drew)); exact HO119.out) hb); have n3_ := zA (Kd.R_elder' (by (with_reducible repeat (first | apply Kd.R_alloc | apply Kd.R_drewN | apply Kd.R_drew)); exact HO128.out) (Kd.R_base ho0) hb); have n4_ := zA (Kd.R_below (by (with_reducible repeat (first | apply Kd.R_alloc | apply Kd.R_drewN | apply Kd.R_drew)); exact HO131.out) hb); have n5_ := zA (Kd.R_below (by (with_reducible repeat (first | apply Kd.R_alloc | apply Kd.R_drewN | apply Kd.R_drew)); exact HO134.out) hb); have n6_ := zA (Kd.R_below (by (with_reducible repeat (first | apply Kd.R_alloc | apply Kd.R_drewN | apply Kd.R_drew)); exact HO137.out) hb); have n7_ := zA (Kd.R_elder' (by (with_reducible repeat (first | apply Kd.R_alloc | apply Kd.R_drewN | apply Kd.R_drew)); exact HO146.out) (Kd.R_base ho0) hb); have n8_ := zA (Kd.R_below (by (with_reducible repeat (first | apply Kd.R_alloc | apply Kd.R_drewN | apply Kd.R_drew)); exact HO149.out) hb); have n9_ := zA (Kd.R_elder' (by (with_reducible repeat (first | apply Kd.R_alloc | apply Kd.R_drewN | apply Kd.R_drew)); exact HO158.out) (Kd.R_base ho0) hb); have n10_ := zA (Kd.R_below (by (with_reducible repeat (first | apply Kd.R_alloc | apply Kd.R_drewN | apply Kd.R_drew)); exact HO161.out) hb); have n11_ := zA (Kd.R_lower (Kd.R_new' (Kd.R_new' (Kd.R_new' (Kd.R_new' (Kd.R_new' ho0 (Kd.R_lt (by (with_reducible repeat (first | apply Kd.R_alloc | apply Kd.R_drewN | apply Kd.R_drew)); exact HO107.out))) (Kd.R_lt (by (with_reducible repeat (first | apply Kd.R_alloc | apply Kd.R_drewN | apply Kd.R_drew)); exact HO116.out))) (Kd.R_lt (by (with_reducible repeat (first | apply Kd.R_alloc | apply Kd.R_drewN | apply Kd.R_drew)); exact HO128.out))) (Kd.R_lt (by (with_reducible repeat (first | apply Kd.R_alloc | apply Kd.R_drewN | apply Kd.R_drew)); exact HO146.out))) (Kd.R_lt (by (with_reducible repeat (first | apply Kd.R_alloc | apply Kd.R_drewN | apply Kd.R_drew)); exact HO158.out))) (zW qB)); have n12_ := zA (zV qB hb); clear HO107 HO116 HO119 HO128 HO131 HO134 HO137 HO146 HO149 HO158 HO161 HB; have HO107 := n0_; have HO116 := n1_; have HO119 := n2_; have HO128 := n3_; have HO131 := n4_; have HO134 := n5_; have HO137 := n6_; have HO146 := n7_; have HO149 := n8_; have HO158 := n9_; have HO161 := n10_; have HO170 := n11_; have HB := n12_; clear n0_ n1_ n2_ n3_ n4_ n5_ n6_ n7_ n8_ n9_ n10_ n11_ n12_; (try clear hb); (try clear hb2); (try clear hk); (try clear hi); (try clear ho0)) | ((with_reducible refine zJq (f := 122) rfl ?_); refine goesL_ (some 48) rfl rfl Try.func122 (by kernel_rfl) rfl #[] rfl (by (try simp only [zR, zS, zT]); first | done | rfl | (simp only [zP, zQ]; rfl)) ?_; (with_reducible refine (backhaullaw22_fees.calls  t171 _ A16.out).mono ?_); rintro e w57 ⟨v172, rfl, ho0, hb⟩; refine ⟨_, rfl, ?_⟩; have n0_ := zA (Kd.R_below (by (with_reducible repeat (first | apply Kd.R_alloc | apply Kd.R_drewN | apply Kd.R_drew)); exact HO107.out) hb); have n1_ := zA (Kd.R_below (by (with_reducible repeat (first | apply Kd.R_alloc | apply Kd.R_drewN | apply Kd.R_drew)); exact HO116.out) hb); have n2_ := zA (Kd.R_elder' (by (with_reducible repeat (first | apply Kd.R_alloc | apply Kd.R_drewN | apply Kd.R_drew)); exact HO119.out) (Kd.R_base ho0) hb); have n3_ := zA (Kd.R_below (by (with_reducible repeat (first | apply Kd.R_alloc | apply Kd.R_drewN | apply Kd.R_drew)); exact HO128.out) hb); have n4_ := zA (Kd.R_elder' (by (with_reducible repeat (first | apply Kd.R_alloc | apply Kd.R_drewN | apply Kd.R_drew)); exact HO131.out) (Kd.R_base ho0) hb); have n5_ := zA (Kd.R_elder' (by (with_reducible repeat (first | apply Kd.R_alloc | apply Kd.R_drewN | apply Kd.R_drew)); exact HO134.out) (Kd.R_base ho0) hb); have n6_ := zA (Kd.R_elder' (by (with_reducible repeat (first | apply Kd.R_alloc | apply Kd.R_drewN | apply Kd.R_drew)); exact HO137.out) (Kd.R_base ho0) hb); have n7_ := zA (Kd.R_below (by (with_reducible repeat (first | apply Kd.R_alloc | apply Kd.R_drewN | apply Kd.R_drew)); exact HO146.out) hb); have n8_ := zA (Kd.R_elder' (by (with_reducible repeat (first | apply Kd.R_alloc | apply Kd.R_drewN | apply Kd.R_drew)); exact HO149.out) (Kd.R_base ho0) hb); have n9_ := zA (Kd.R_below (by (with_reducible repeat (first | apply Kd.R_alloc | apply Kd.R_drewN | apply Kd.R_drew)); exact HO158.out) hb); have n10_ := zA (Kd.R_elder' (by (with_reducible repeat (first | apply Kd.R_alloc | apply Kd.R_drewN | apply Kd.R_drew)); exact HO161.out) (Kd.R_base ho0) hb); have n11_ := zA (Kd.R_below (by (with_reducible repeat (first | apply Kd.R_alloc | apply Kd.R_drewN | apply Kd.R_drew)); exact HO170.out) hb); have n12_ := zA (Kd.R_lower (Kd.R_new' (Kd.R_new' (Kd.R_new' (Kd.R_new' (Kd.R_new' (Kd.R_new' ho0 (Kd.R_lt (by (with_reducible repeat (first | apply Kd.R_alloc | apply Kd.R_drewN | apply Kd.R_drew)); exact HO119.out))) (Kd.R_lt (by (with_reducible repeat (first | apply Kd.R_alloc | apply Kd.R_drewN | apply Kd.R_drew)); exact HO131.out))) (Kd.R_lt (by (with_reducible repeat (first | apply Kd.R_alloc | apply Kd.R_drewN | apply Kd.R_drew)); exact HO134.out))) (Kd.R_lt (by (with_reducible repeat (first | apply Kd.R_alloc | apply Kd.R_drewN | apply Kd.R_drew)); exact HO137.out))) (Kd.R_lt (by (with_reducible repeat (first | apply Kd.R_alloc | apply Kd.R_drewN | apply Kd.R_drew)); exact HO149.out))) (Kd.R_lt (by (with_reducible repeat (first | apply Kd.R_alloc | apply Kd.R_drewN | apply Kd.R_drew)); exact HO161.out))) (zW qB)); have n13_ := zA (zV qB hb); clear HO107 HO116 HO119 HO128 HO131 HO134 HO137 HO146 HO149 HO158 HO161 HO170 HB; have HO107 := n0_; have HO116 := n1_; have HO119 := n2_; have HO128 := n3_; have HO131 := n4_; have HO134 := n5_; have HO137 := n6_; have HO146 := n7_; have HO149 := n8_; have HO158 := n9_; have HO161 := n10_; have HO170 := n11_; have HO173 := n12_; have HB := n13_; clear n0_ n1_ n2_ n3_ n4_ n5_ n6_ n7_ n8_ n9_ n10_ n11_ n12_ n13_; (try clear hb); (try clear hb2); (try clear hk); (try clear hi); (try clear ho0)) | ((with_reducible refine gate_dst (N := 49) rfl ?_); (try (refine gate_guard (by rfl) ?_; dsimp only)); refine Kd.R_lit (Kd.int .i64) _ 3 ?hg (N := 49) ?hd (xs := ([0] : List Int)) (inner := [.int .i64 0]) (ok := fun _ => True) (okp := fun _ => True) ?hr ?hp (fun _ hk => hk) trivial (Below.refl _ _) (Nat.le_refl _) (by simp) ?_; (case hd => rfl); (case hg => rfl); (case hr => first | (go_simp; done) | (go_simp; rfl)); (case hp => exact (Reps.one (show Kd.M (Kd.int .i64) _ _ _ 0 [.int .i64 0] from rfl) (Reps.none _ _))); intro v175 w58 ho59 hb hg_ hnew_; clear hg_ hnew_; (first | rw [← Ny174.out] at ho59 | (simp only [Int.reduceToNat] at ho59; rw [← Ny174.out] at ho59)); have n0_ := zA (Kd.R_below (by (with_reducible repeat (first | apply Kd.R_alloc | apply Kd.R_drewN | apply Kd.R_drew)); exact HO107.out) hb); have n1_ := zA (Kd.R_below (by (with_reducible repeat (first | apply Kd.R_alloc | apply Kd.R_drewN | apply Kd.R_drew)); exact HO116.out) hb); have n2_ := zA (Kd.R_elder' (by (with_reducible repeat (first | apply Kd.R_alloc | apply Kd.R_drewN | apply Kd.R_drew)); exact HO119.out) (Kd.R_base ho59) hb); have n3_ := zA (Kd.R_below (by (with_reducible repeat (first | apply Kd.R_alloc | apply Kd.R_drewN | apply Kd.R_drew)); exact HO128.out) hb); have n4_ := zA (Kd.R_elder' (by (with_reducible repeat (first | apply Kd.R_alloc | apply Kd.R_drewN | apply Kd.R_drew)); exact HO131.out) (Kd.R_base ho59) hb); have n5_ := zA (Kd.R_elder' (by (with_reducible repeat (first | apply Kd.R_alloc | apply Kd.R_drewN | apply Kd.R_drew)); exact HO134.out) (Kd.R_base ho59) hb); have n6_ := zA (Kd.R_elder' (by (with_reducible repeat (first | apply Kd.R_alloc | apply Kd.R_drewN | apply Kd.R_drew)); exact HO137.out) (Kd.R_base ho59) hb); have n7_ := zA (Kd.R_below (by (with_reducible repeat (first | apply Kd.R_alloc | apply Kd.R_drewN | apply Kd.R_drew)); exact HO146.out) hb); have n8_ := zA (Kd.R_elder' (by (with_reducible repeat (first | apply Kd.R_alloc | apply Kd.R_drewN | apply Kd.R_drew)); exact HO149.out) (Kd.R_base ho59) hb); have n9_ := zA (Kd.R_below (by (with_reducible repeat (first | apply Kd.R_alloc | apply Kd.R_drewN | apply Kd.R_drew)); exact HO158.out) hb); have n10_ := zA (Kd.R_elder' (by (with_reducible repeat (first | apply Kd.R_alloc | apply Kd.R_drewN | apply Kd.R_drew)); exact HO161.out) (Kd.R_base ho59) hb); have n11_ := zA (Kd.R_below (by (with_reducible repeat (first | apply Kd.R_alloc | apply Kd.R_drewN | apply Kd.R_drew)); exact HO170.out) hb); have n12_ := zA (Kd.R_elder' (by (with_reducible repeat (first | apply Kd.R_alloc | apply Kd.R_drewN | apply Kd.R_drew)); exact HO173.out) (Kd.R_base ho59) hb); have n13_ := zA (Kd.R_lower (Kd.R_new' (Kd.R_new' (Kd.R_new' (Kd.R_new' (Kd.R_new' (Kd.R_new' (Kd.R_new' ho59 (Kd.R_lt (by (with_reducible repeat (first | apply Kd.R_alloc | apply Kd.R_drewN | apply Kd.R_drew)); exact HO119.out))) (Kd.R_lt (by (with_reducible repeat (first | apply Kd.R_alloc | apply Kd.R_drewN | apply Kd.R_drew)); exact HO131.out))) (Kd.R_lt (by (with_reducible repeat (first | apply Kd.R_alloc | apply Kd.R_drewN | apply Kd.R_drew)); exact HO134.out))) (Kd.R_lt (by (with_reducible repeat (first | apply Kd.R_alloc | apply Kd.R_drewN | apply Kd.R_drew)); exact HO137.out))) (Kd.R_lt (by (with_reducible repeat (first | apply Kd.R_alloc | apply Kd.R_drewN | apply Kd.R_drew)); exact HO149.out))) (Kd.R_lt (by (with_reducible repeat (first | apply Kd.R_alloc | apply Kd.R_drewN | apply Kd.R_drew)); exact HO161.out))) (Kd.R_lt (by (with_reducible repeat (first | apply Kd.R_alloc | apply Kd.R_drewN | apply Kd.R_drew)); exact HO173.out))) (zW qB)); have n14_ := zA (zV qB hb); clear HO107 HO116 HO119 HO128 HO131 HO134 HO137 HO146 HO149 HO158 HO161 HO170 HO173 HB; have HO107 := n0_; have HO116 := n1_; have HO119 := n2_; have HO128 := n3_; have HO131 := n4_; have HO134 := n5_; have HO137 := n6_; have HO146 := n7_; have HO149 := n8_; have HO158 := n9_; have HO161 := n10_; have HO170 := n11_; have HO173 := n12_; have HO176 := n13_; have HB := n14_; clear n0_ n1_ n2_ n3_ n4_ n5_ n6_ n7_ n8_ n9_ n10_ n11_ n12_ n13_ n14_ hb ho59; obtain ⟨Ao60, co60, eo60⟩ := Kd.R_slice HO170.out; subst eo60; obtain ⟨Ao61, co61, eo61⟩ := Kd.R_slice HO173.out; subst eo61; obtain ⟨Ao62, co62, eo62⟩ := Kd.R_slice HO176.out; subst eo62) | ((with_reducible refine zJq (f := 78) rfl ?_); refine goesL_ (some 50) rfl rfl Try.func78 (by kernel_rfl) rfl #[.agg #[.int .i64 t164, .int .i64 t165, .int .i64 t166, .int .i64 t167, .slice Ao60 t168.length co60], .slice Ao61 t171.length co61, .slice Ao62 y174.length co62] rfl (by (try simp only [zR, zS, zT]); first | done | rfl | (simp only [zP, zQ]; rfl)) ?_; (with_reducible refine (value_All.calls 1000 t164 t165 t166 t167 _ _ t168 _ _ t171 _ _ y174 t177 t180 t181 _ ?side1 ?side2 ?side3 ?side4 ?side5 ?side6 A17.out).mono ?_); (case side1 => repeat (first | exact (Kd.R_reads' HO170.out).2.2 | (with_reducible refine Kd.C_alloc ?_ _) | (with_reducible refine Kd.C_drewN ?_ _) | (with_reducible refine Kd.C_drew ?_))); (case side2 => exact (Kd.R_reads' HO170.out).2.1); (case side3 => repeat (first | exact (Kd.R_reads' HO173.out).2.2 | (with_reducible refine Kd.C_alloc ?_ _) | (with_reducible refine Kd.C_drewN ?_ _) | (with_reducible refine Kd.C_drew ?_))); (case side4 => exact (Kd.R_reads' HO173.out).2.1); (case side5 => repeat (first | exact (Kd.R_reads' HO176.out).2.2 | (with_reducible refine Kd.C_alloc ?_ _) | (with_reducible refine Kd.C_drewN ?_ _) | (with_reducible refine Kd.C_drew ?_))); (case side6 => exact (Kd.R_reads' HO176.out).2.1); rintro e w63 ⟨v178, rfl, ho0, hb⟩; refine ⟨_, rfl, ?_⟩; have n0_ := zA (Kd.R_below (by (with_reducible repeat (first | apply Kd.R_alloc | apply Kd.R_drewN | apply Kd.R_drew)); exact HO107.out) hb); have n1_ := zA (Kd.R_below (by (with_reducible repeat (first | apply Kd.R_alloc | apply Kd.R_drewN | apply Kd.R_drew)); exact HO116.out) hb); have n2_ := zA (Kd.R_elder' (by (with_reducible repeat (first | apply Kd.R_alloc | apply Kd.R_drewN | apply Kd.R_drew)); exact HO119.out) (Kd.R_base ho0) hb); have n3_ := zA (Kd.R_below (by (with_reducible repeat (first | apply Kd.R_alloc | apply Kd.R_drewN | apply Kd.R_drew)); exact HO128.out) hb); have n4_ := zA (Kd.R_elder' (by (with_reducible repeat (first | apply Kd.R_alloc | apply Kd.R_drewN | apply Kd.R_drew)); exact HO131.out) (Kd.R_base ho0) hb); have n5_ := zA (Kd.R_elder' (by (with_reducible repeat (first | apply Kd.R_alloc | apply Kd.R_drewN | apply Kd.R_drew)); exact HO134.out) (Kd.R_base ho0) hb); have n6_ := zA (Kd.R_elder' (by (with_reducible repeat (first | apply Kd.R_alloc | apply Kd.R_drewN | apply Kd.R_drew)); exact HO137.out) (Kd.R_base ho0) hb); have n7_ := zA (Kd.R_below (by (with_reducible repeat (first | apply Kd.R_alloc | apply Kd.R_drewN | apply Kd.R_drew)); exact HO146.out) hb); have n8_ := zA (Kd.R_elder' (by (with_reducible repeat (first | apply Kd.R_alloc | apply Kd.R_drewN | apply Kd.R_drew)); exact HO149.out) (Kd.R_base ho0) hb); have n9_ := zA (Kd.R_below (by (with_reducible repeat (first | apply Kd.R_alloc | apply Kd.R_drewN | apply Kd.R_drew)); exact HO158.out) hb); have n10_ := zA (Kd.R_elder' (by (with_reducible repeat (first | apply Kd.R_alloc | apply Kd.R_drewN | apply Kd.R_drew)); exact HO161.out) (Kd.R_base ho0) hb); have n11_ := zA (Kd.R_below (by (with_reducible repeat (first | apply Kd.R_alloc | apply Kd.R_drewN | apply Kd.R_drew)); exact HO170.out) hb); have n12_ := zA (Kd.R_elder' (by (with_reducible repeat (first | apply Kd.R_alloc | apply Kd.R_drewN | apply Kd.R_drew)); exact HO173.out) (Kd.R_base ho0) hb); have n13_ := zA (Kd.R_elder' (by (with_reducible repeat (first | apply Kd.R_alloc | apply Kd.R_drewN | apply Kd.R_drew)); exact HO176.out) (Kd.R_base ho0) hb); have n14_ := zA (Kd.R_lower (Kd.R_new' (Kd.R_new' (Kd.R_new' (Kd.R_new' (Kd.R_new' (Kd.R_new' (Kd.R_new' (Kd.R_new' ho0 (Kd.R_lt (by (with_reducible repeat (first | apply Kd.R_alloc | apply Kd.R_drewN | apply Kd.R_drew)); exact HO119.out))) (Kd.R_lt (by (with_reducible repeat (first | apply Kd.R_alloc | apply Kd.R_drewN | apply Kd.R_drew)); exact HO131.out))) (Kd.R_lt (by (with_reducible repeat (first | apply Kd.R_alloc | apply Kd.R_drewN | apply Kd.R_drew)); exact HO134.out))) (Kd.R_lt (by (with_reducible repeat (first | apply Kd.R_alloc | apply Kd.R_drewN | apply Kd.R_drew)); exact HO137.out))) (Kd.R_lt (by (with_reducible repeat (first | apply Kd.R_alloc | apply Kd.R_drewN | apply Kd.R_drew)); exact HO149.out))) (Kd.R_lt (by (with_reducible repeat (first | apply Kd.R_alloc | apply Kd.R_drewN | apply Kd.R_drew)); exact HO161.out))) (Kd.R_lt (by (with_reducible repeat (first | apply Kd.R_alloc | apply Kd.R_drewN | apply Kd.R_drew)); exact HO173.out))) (Kd.R_lt (by (with_reducible repeat (first | apply Kd.R_alloc | apply Kd.R_drewN | apply Kd.R_drew)); exact HO176.out))) (zW qB)); have n15_ := zA (zV qB hb); clear HO107 HO116 HO119 HO128 HO131 HO134 HO137 HO146 HO149 HO158 HO161 HO170 HO173 HO176 HB; have HO107 := n0_; have HO116 := n1_; have HO119 := n2_; have HO128 := n3_; have HO131 := n4_; have HO134 := n5_; have HO137 := n6_; have HO146 := n7_; have HO149 := n8_; have HO158 := n9_; have HO161 := n10_; have HO170 := n11_; have HO173 := n12_; have HO176 := n13_; have HO179 := n14_; have HB := n15_; clear n0_ n1_ n2_ n3_ n4_ n5_ n6_ n7_ n8_ n9_ n10_ n11_ n12_ n13_ n14_ n15_; (try clear hb); (try clear hb2); (try clear hk); (try clear hi); (try clear ho0)) | ((with_reducible refine gate_dst (N := 70) rfl ?_); (try (refine gate_guard (by rfl) ?_; dsimp only)); refine Kd.R_lit (Kd.int .i64) _ 3 ?hg (N := 70) ?hd (xs := ([55, 0] : List Int)) (inner := [.int .i64 55, .int .i64 0]) (ok := fun _ => True) (okp := fun _ => True) ?hr ?hp (fun _ hk => hk) trivial (Below.refl _ _) (Nat.le_refl _) (by simp) ?_; (case hd => rfl); (case hg => rfl); (case hr => first | (go_simp; done) | (go_simp; rfl)); (case hp => exact (Reps.one (show Kd.M (Kd.int .i64) _ _ _ 55 [.int .i64 55] from rfl) (Reps.one (show Kd.M (Kd.int .i64) _ _ _ 0 [.int .i64 0] from rfl) (Reps.none _ _)))); intro v183 w64 ho65 hb hg_ hnew_; clear hg_ hnew_; (first | rw [← Ny182.out] at ho65 | (simp only [Int.reduceToNat] at ho65; rw [← Ny182.out] at ho65)); have n0_ := zA (Kd.R_below (by (with_reducible repeat (first | apply Kd.R_alloc | apply Kd.R_drewN | apply Kd.R_drew)); exact HO107.out) hb); have n1_ := zA (Kd.R_below (by (with_reducible repeat (first | apply Kd.R_alloc | apply Kd.R_drewN | apply Kd.R_drew)); exact HO116.out) hb); have n2_ := zA (Kd.R_elder' (by (with_reducible repeat (first | apply Kd.R_alloc | apply Kd.R_drewN | apply Kd.R_drew)); exact HO119.out) (Kd.R_base ho65) hb); have n3_ := zA (Kd.R_below (by (with_reducible repeat (first | apply Kd.R_alloc | apply Kd.R_drewN | apply Kd.R_drew)); exact HO128.out) hb); have n4_ := zA (Kd.R_elder' (by (with_reducible repeat (first | apply Kd.R_alloc | apply Kd.R_drewN | apply Kd.R_drew)); exact HO131.out) (Kd.R_base ho65) hb); have n5_ := zA (Kd.R_elder' (by (with_reducible repeat (first | apply Kd.R_alloc | apply Kd.R_drewN | apply Kd.R_drew)); exact HO134.out) (Kd.R_base ho65) hb); have n6_ := zA (Kd.R_elder' (by (with_reducible repeat (first | apply Kd.R_alloc | apply Kd.R_drewN | apply Kd.R_drew)); exact HO137.out) (Kd.R_base ho65) hb); have n7_ := zA (Kd.R_below (by (with_reducible repeat (first | apply Kd.R_alloc | apply Kd.R_drewN | apply Kd.R_drew)); exact HO146.out) hb); have n8_ := zA (Kd.R_elder' (by (with_reducible repeat (first | apply Kd.R_alloc | apply Kd.R_drewN | apply Kd.R_drew)); exact HO149.out) (Kd.R_base ho65) hb); have n9_ := zA (Kd.R_below (by (with_reducible repeat (first | apply Kd.R_alloc | apply Kd.R_drewN | apply Kd.R_drew)); exact HO158.out) hb); have n10_ := zA (Kd.R_elder' (by (with_reducible repeat (first | apply Kd.R_alloc | apply Kd.R_drewN | apply Kd.R_drew)); exact HO161.out) (Kd.R_base ho65) hb); have n11_ := zA (Kd.R_below (by (with_reducible repeat (first | apply Kd.R_alloc | apply Kd.R_drewN | apply Kd.R_drew)); exact HO170.out) hb); have n12_ := zA (Kd.R_elder' (by (with_reducible repeat (first | apply Kd.R_alloc | apply Kd.R_drewN | apply Kd.R_drew)); exact HO173.out) (Kd.R_base ho65) hb); have n13_ := zA (Kd.R_elder' (by (with_reducible repeat (first | apply Kd.R_alloc | apply Kd.R_drewN | apply Kd.R_drew)); exact HO176.out) (Kd.R_base ho65) hb); have n14_ := zA (Kd.R_elder' (by (with_reducible repeat (first | apply Kd.R_alloc | apply Kd.R_drewN | apply Kd.R_drew)); exact HO179.out) (Kd.R_base ho65) hb); have n15_ := zA (Kd.R_lower (Kd.R_new' (Kd.R_new' (Kd.R_new' (Kd.R_new' (Kd.R_new' (Kd.R_new' (Kd.R_new' (Kd.R_new' (Kd.R_new' ho65 (Kd.R_lt (by (with_reducible repeat (first | apply Kd.R_alloc | apply Kd.R_drewN | apply Kd.R_drew)); exact HO119.out))) (Kd.R_lt (by (with_reducible repeat (first | apply Kd.R_alloc | apply Kd.R_drewN | apply Kd.R_drew)); exact HO131.out))) (Kd.R_lt (by (with_reducible repeat (first | apply Kd.R_alloc | apply Kd.R_drewN | apply Kd.R_drew)); exact HO134.out))) (Kd.R_lt (by (with_reducible repeat (first | apply Kd.R_alloc | apply Kd.R_drewN | apply Kd.R_drew)); exact HO137.out))) (Kd.R_lt (by (with_reducible repeat (first | apply Kd.R_alloc | apply Kd.R_drewN | apply Kd.R_drew)); exact HO149.out))) (Kd.R_lt (by (with_reducible repeat (first | apply Kd.R_alloc | apply Kd.R_drewN | apply Kd.R_drew)); exact HO161.out))) (Kd.R_lt (by (with_reducible repeat (first | apply Kd.R_alloc | apply Kd.R_drewN | apply Kd.R_drew)); exact HO173.out))) (Kd.R_lt (by (with_reducible repeat (first | apply Kd.R_alloc | apply Kd.R_drewN | apply Kd.R_drew)); exact HO176.out))) (Kd.R_lt (by (with_reducible repeat (first | apply Kd.R_alloc | apply Kd.R_drewN | apply Kd.R_drew)); exact HO179.out))) (zW qB)); have n16_ := zA (zV qB hb); clear HO107 HO116 HO119 HO128 HO131 HO134 HO137 HO146 HO149 HO158 HO161 HO170 HO173 HO176 HO179 HB; have HO107 := n0_; have HO116 := n1_; have HO119 := n2_; have HO128 := n3_; have HO131 := n4_; have HO134 := n5_; have HO137 := n6_; have HO146 := n7_; have HO149 := n8_; have HO158 := n9_; have HO161 := n10_; have HO170 := n11_; have HO173 := n12_; have HO176 := n13_; have HO179 := n14_; have HO184 := n15_; have HB := n16_; clear n0_ n1_ n2_ n3_ n4_ n5_ n6_ n7_ n8_ n9_ n10_ n11_ n12_ n13_ n14_ n15_ n16_ hb ho65; obtain ⟨Ao66, co66, eo66⟩ := Kd.R_slice HO137.out; subst eo66; obtain ⟨Ao67, co67, eo67⟩ := Kd.R_slice HO184.out; subst eo67) | (go_at_call 59; (with_reducible refine (backhaulref02_SameInts.calls 1000 _ _ t135 _ _ y182 true _ ?side1 ?side2 ?side3 ?side4 A22.out).mono ?_); (case side1 => repeat (first | exact (Kd.R_reads' HO137.out).2.2 | (with_reducible refine Kd.C_alloc ?_ _) | (with_reducible refine Kd.C_drewN ?_ _) | (with_reducible refine Kd.C_drew ?_))); (case side2 => exact (Kd.R_reads' HO137.out).2.1); (case side3 => repeat (first | exact (Kd.R_reads' HO184.out).2.2 | (with_reducible refine Kd.C_alloc ?_ _) | (with_reducible refine Kd.C_drewN ?_ _) | (with_reducible refine Kd.C_drew ?_))); (case side4 => exact (Kd.R_reads' HO184.out).2.1); rintro e w' ⟨rfl, ⟨nd, rfl⟩⟩))
                        go_ret; exact ⟨qE, qB⟩
                      rw [if_neg c29] at H; have c29b0 : (t181 == 2) = false := beq_eq_false_iff_ne.mpr c29; have c29b1 : (t181 != 2) = true := bne_iff_ne.mpr c29; exact absurd H (by simp)
                    rw [if_neg c28] at H; have c28b0 : (t163 == 2) = false := beq_eq_false_iff_ne.mpr c28; have c28b1 : (t163 != 2) = true := bne_iff_ne.mpr c28; exact absurd H (by simp)
                  rw [if_neg c27] at H; have c27b0 : (t151 == 0) = false := beq_eq_false_iff_ne.mpr c27; have c27b1 : (t151 != 0) = true := bne_iff_ne.mpr c27; exact absurd H (by simp)
                rw [if_neg c26] at H; have c26b0 : (t150 == 110) = false := beq_eq_false_iff_ne.mpr c26; have c26b1 : (t150 != 110) = true := bne_iff_ne.mpr c26; exact absurd H (by simp)
              rw [if_neg c25] at H; have c25b0 : (t139 == 0) = false := beq_eq_false_iff_ne.mpr c25; have c25b1 : (t139 != 0) = true := bne_iff_ne.mpr c25; exact absurd H (by simp)
            rw [if_neg c24] at H; have c24b0 : (t138 == 55) = false := beq_eq_false_iff_ne.mpr c24; have c24b1 : (t138 != 55) = true := bne_iff_ne.mpr c24; exact absurd H (by simp)
          replace c23 := Bool.eq_false_iff.mpr c23; subst c23; have H1 : (some false) = some true := by first | (rw [if_neg (show ¬ (false = true) by decide)] at H; exact H) | rfl
          clear H; have H := H1; clear H1; exact absurd H (by simp)
        rw [if_neg c21] at H; have c21b0 : (t121 == 0) = false := beq_eq_false_iff_ne.mpr c21; have c21b1 : (t121 != 0) = true := bne_iff_ne.mpr c21; exact absurd H (by simp)
      rw [if_neg c20] at H; have c20b0 : (t120 == 49) = false := beq_eq_false_iff_ne.mpr c20; have c20b1 : (t120 != 49) = true := bne_iff_ne.mpr c20; exact absurd H (by simp)
    rw [if_neg c19] at H; have c19b0 : (t109 == 0) = false := beq_eq_false_iff_ne.mpr c19; have c19b1 : (t109 != 0) = true := bne_iff_ne.mpr c19; exact absurd H (by simp)
  rw [if_neg c18] at H
  have c18b0 : (t108 == 55) = false := beq_eq_false_iff_ne.mpr c18
  have c18b1 : (t108 != 55) = true := bne_iff_ne.mpr c18
  exact absurd H (by simp)
mutual
def backhaullaw22_ValueWhole.j0 : Nat → List Int → List Int → Bool → Int → Int → Int → Int → List ByteArray → Option (Bool)
  | 0, _, _, _, _, _, _, _, _ => none
  | k + 1, x1, x2, x30, x102000, x102001, x102002, x102003, x102004 => if x30 = true then ((backhaullaw22_awake.f).bind fun t106 => (if t106 = true then (some true) else (some false))) else ((value_All.f k x102000 x102001 x102002 x102003 x102004 x1 x2).bind fun bt107 => (if bt107.2.2 = 0 then ((line_Paid.f k x102000 x102001 x102002 x102003 x102004).bind fun bt113 => ((value_Most.f k x102000 x102001 x102002 x102003 x102004 x1).bind fun bt115 => (if bt113.2 = 0 then (if bt115.2 = 0 then (if bt107.2.1 < 0 then (backhaullaw22_ValueWhole.j1 k x1 x2 bt107.1 bt107.2.1 bt113.1 true) else (if bt107.2.1 > bt115.1 then (backhaullaw22_ValueWhole.j1 k x1 x2 bt107.1 bt107.2.1 bt113.1 true) else (if bt115.1 > bt113.1 then (backhaullaw22_ValueWhole.j1 k x1 x2 bt107.1 bt107.2.1 bt113.1 true) else (backhaullaw22_ValueWhole.j1 k x1 x2 bt107.1 bt107.2.1 bt113.1 ((bt107.1.length : Int) != (x2.length : Int)))))) else (backhaullaw22_ValueWhole.j1 k x1 x2 bt107.1 bt107.2.1 bt113.1 true)) else (backhaullaw22_ValueWhole.j1 k x1 x2 bt107.1 bt107.2.1 bt113.1 true)))) else (if (bt107.1.length : Int) = 0 then (if bt107.2.1 = 0 then ((backhaullaw22_awake.f).bind fun t112 => (if t112 = true then (some true) else (some false))) else (some false)) else (some false))))
def backhaullaw22_ValueWhole.j1 : Nat → List Int → List Int → List Int → Int → Int → Bool → Option (Bool)
  | 0, _, _, _, _, _, _ => none
  | k + 1, x1, x2, x7, x8, x10, x89 => if x89 = true then (some false) else (backhaullaw22_ValueWhole.l0 k x1 x2 x7 x8 x10 true 0 0)
def backhaullaw22_ValueWhole.l0 : Nat → List Int → List Int → List Int → Int → Int → Bool → Int → Int → Option (Bool)
  | 0, _, _, _, _, _, _, _, _ => none
  | k + 1, x1, x2, x7, x8, x10, x14, x15, x16 => if x16 < (x2.length : Int) then (if 0 ≤ x16 then (if (rd x2 x16) < 0 then (some false) else (if (rd x2 x16) ≥ (x1.length : Int) then (some false) else (if x14 = true then (if 0 ≤ (rd x2 x16) then (if (rd x2 x16) < (x1.length : Int) then (if x16 < (x7.length : Int) then (backhaullaw22_ValueWhole.l0 k x1 x2 x7 x8 x10 ((rd x1 (rd x2 x16)) == 0) (wrap64 (x15 + (rd x7 x16))) (wrap64 (x16 + 1))) else (none)) else (none)) else (none)) else (if x16 < (x7.length : Int) then (backhaullaw22_ValueWhole.l0 k x1 x2 x7 x8 x10 false (wrap64 (x15 + (rd x7 x16))) (wrap64 (x16 + 1))) else (none))))) else (none)) else (if x15 = x8 then (if x14 = true then (if x8 = x10 then ((backhaullaw22_awake.f).bind fun t123 => (if t123 = true then (some true) else (some false))) else (some false)) else ((backhaullaw22_awake.f).bind fun t124 => (if t124 = true then (some true) else (some false)))) else (some false))
end
def backhaullaw22_ValueWhole.f (k : Nat) (a0_0 : Int) (a0_1 : Int) (a0_2 : Int) (a0_3 : Int) (l0_4 : List ByteArray) (l1 : List Int) (l2 : List Int) : Option (Bool) := (backhaullaw21_Few.f k (([(⟨a0_0, a0_1, a0_2, a0_3, l0_4⟩ : S71)] : List (S71)))).bind fun t105 => (if t105 = true then (if (l1.length : Int) > 100 then (backhaullaw22_ValueWhole.j0 k l1 l2 true a0_0 a0_1 a0_2 a0_3 l0_4) else (backhaullaw22_ValueWhole.j0 k l1 l2 (decide ((l2.length : Int) > 100)) a0_0 a0_1 a0_2 a0_3 l0_4)) else (backhaullaw22_ValueWhole.j0 k l1 l2 true a0_0 a0_1 a0_2 a0_3 l0_4))
theorem backhaullaw22_ValueWhole.mono_l : ∀ k, (∀ y0 y1 y2 y3 y4 y5 y6 y7, LeO (backhaullaw22_ValueWhole.j0 k y0 y1 y2 y3 y4 y5 y6 y7) (backhaullaw22_ValueWhole.j0 (k + 1) y0 y1 y2 y3 y4 y5 y6 y7)) ∧ (∀ y0 y1 y2 y3 y4 y5, LeO (backhaullaw22_ValueWhole.j1 k y0 y1 y2 y3 y4 y5) (backhaullaw22_ValueWhole.j1 (k + 1) y0 y1 y2 y3 y4 y5)) ∧ (∀ y0 y1 y2 y3 y4 y5 y6 y7, LeO (backhaullaw22_ValueWhole.l0 k y0 y1 y2 y3 y4 y5 y6 y7) (backhaullaw22_ValueWhole.l0 (k + 1) y0 y1 y2 y3 y4 y5 y6 y7))
  | 0 => ⟨fun _ _ _ _ _ _ _ _ r h => by simp [backhaullaw22_ValueWhole.j0] at h, fun _ _ _ _ _ _ r h => by simp [backhaullaw22_ValueWhole.j1] at h, fun _ _ _ _ _ _ _ _ r h => by simp [backhaullaw22_ValueWhole.l0] at h⟩
  | k + 1 => by
    obtain ⟨ih0, ih1, ih2⟩ := backhaullaw22_ValueWhole.mono_l k
    refine ⟨?_, ?_, ?_⟩
    · intro y0 y1 y2 y3 y4 y5 y6 y7
      unfold backhaullaw22_ValueWhole.j0
      repeat' first
      | (with_reducible exact ih0 _ _ _ _ _ _ _ _)
      | (with_reducible exact ih1 _ _ _ _ _ _)
      | (with_reducible exact ih2 _ _ _ _ _ _ _ _)
      | (with_reducible exact backhaullaw21_Few.mono _ _)
      | (with_reducible exact line_Paid.mono _ _ _ _ _ _)
      | (with_reducible exact value_All.mono _ _ _ _ _ _ _ _)
      | (with_reducible exact value_Most.mono _ _ _ _ _ _ _)
      | (with_reducible exact LeO.refl _)
      | (with_reducible exact LeO.none _)
      | (with_reducible refine LeO.ite ?_ ?_)
      | (with_reducible refine LeO.bind ?_ (fun _ => ?_))
      | exact ih0 _ _ _ _ _ _ _ _
      | exact ih1 _ _ _ _ _ _
      | exact ih2 _ _ _ _ _ _ _ _
      | exact backhaullaw21_Few.mono _ _
      | exact line_Paid.mono _ _ _ _ _ _
      | exact value_All.mono _ _ _ _ _ _ _ _
      | exact value_Most.mono _ _ _ _ _ _ _
      | exact LeO.none _
      | refine LeO.ite ?_ ?_
      | refine LeO.bind ?_ (fun _ => ?_)
    · intro y0 y1 y2 y3 y4 y5
      unfold backhaullaw22_ValueWhole.j1
      repeat' first
      | (with_reducible exact ih0 _ _ _ _ _ _ _ _)
      | (with_reducible exact ih1 _ _ _ _ _ _)
      | (with_reducible exact ih2 _ _ _ _ _ _ _ _)
      | (with_reducible exact backhaullaw21_Few.mono _ _)
      | (with_reducible exact line_Paid.mono _ _ _ _ _ _)
      | (with_reducible exact value_All.mono _ _ _ _ _ _ _ _)
      | (with_reducible exact value_Most.mono _ _ _ _ _ _ _)
      | (with_reducible exact LeO.refl _)
      | (with_reducible exact LeO.none _)
      | (with_reducible refine LeO.ite ?_ ?_)
      | (with_reducible refine LeO.bind ?_ (fun _ => ?_))
      | exact ih0 _ _ _ _ _ _ _ _
      | exact ih1 _ _ _ _ _ _
      | exact ih2 _ _ _ _ _ _ _ _
      | exact backhaullaw21_Few.mono _ _
      | exact line_Paid.mono _ _ _ _ _ _
      | exact value_All.mono _ _ _ _ _ _ _ _
      | exact value_Most.mono _ _ _ _ _ _ _
      | exact LeO.none _
      | refine LeO.ite ?_ ?_
      | refine LeO.bind ?_ (fun _ => ?_)
    intro y0 y1 y2 y3 y4 y5 y6 y7
    unfold backhaullaw22_ValueWhole.l0
    repeat' first
    | (with_reducible exact ih0 _ _ _ _ _ _ _ _)
    | (with_reducible exact ih1 _ _ _ _ _ _)
    | (with_reducible exact ih2 _ _ _ _ _ _ _ _)
    | (with_reducible exact backhaullaw21_Few.mono _ _)
    | (with_reducible exact line_Paid.mono _ _ _ _ _ _)
    | (with_reducible exact value_All.mono _ _ _ _ _ _ _ _)
    | (with_reducible exact value_Most.mono _ _ _ _ _ _ _)
    | (with_reducible exact LeO.refl _)
    | (with_reducible exact LeO.none _)
    | (with_reducible refine LeO.ite ?_ ?_)
    | (with_reducible refine LeO.bind ?_ (fun _ => ?_))
    | exact ih0 _ _ _ _ _ _ _ _
    | exact ih1 _ _ _ _ _ _
    | exact ih2 _ _ _ _ _ _ _ _
    | exact backhaullaw21_Few.mono _ _
    | exact line_Paid.mono _ _ _ _ _ _
    | exact value_All.mono _ _ _ _ _ _ _ _
    | exact value_Most.mono _ _ _ _ _ _ _
    | exact LeO.none _
    | refine LeO.ite ?_ ?_
    | refine LeO.bind ?_ (fun _ => ?_)
theorem backhaullaw22_ValueWhole.mono : ∀ a0 a1 a2 a3 a4 a5 a6 k, LeO (backhaullaw22_ValueWhole.f k a0 a1 a2 a3 a4 a5 a6) (backhaullaw22_ValueWhole.f (k + 1) a0 a1 a2 a3 a4 a5 a6) := by
  intro a0 a1 a2 a3 a4 a5 a6 k
  obtain ⟨ih0, ih1, ih2⟩ := backhaullaw22_ValueWhole.mono_l k
  unfold backhaullaw22_ValueWhole.f
  repeat' first
      | (with_reducible exact ih0 _ _ _ _ _ _ _ _)
      | (with_reducible exact ih1 _ _ _ _ _ _)
      | (with_reducible exact ih2 _ _ _ _ _ _ _ _)
      | (with_reducible exact backhaullaw21_Few.mono _ _)
      | (with_reducible exact line_Paid.mono _ _ _ _ _ _)
      | (with_reducible exact value_All.mono _ _ _ _ _ _ _ _)
      | (with_reducible exact value_Most.mono _ _ _ _ _ _ _)
      | (with_reducible exact LeO.refl _)
      | (with_reducible exact LeO.none _)
      | (with_reducible refine LeO.ite ?_ ?_)
      | (with_reducible refine LeO.bind ?_ (fun _ => ?_))
      | exact ih0 _ _ _ _ _ _ _ _
      | exact ih1 _ _ _ _ _ _
      | exact ih2 _ _ _ _ _ _ _ _
      | exact backhaullaw21_Few.mono _ _
      | exact line_Paid.mono _ _ _ _ _ _
      | exact value_All.mono _ _ _ _ _ _ _ _
      | exact value_Most.mono _ _ _ _ _ _ _
      | exact LeO.none _
      | refine LeO.ite ?_ ?_
      | refine LeO.bind ?_ (fun _ => ?_)
set_option maxHeartbeats 8000000 in
set_option maxRecDepth 100000 in
theorem backhaullaw22_ValueWhole.calls (k : Nat) (a0_0 : Int) (a0_1 : Int) (a0_2 : Int) (a0_3 : Int) (P0_4_ : Nat → Prop) (A0_4 : Option Addr) (c0_4 : Nat) (l0_4 : List ByteArray) (A1 : Option Addr) (c1 : Nat) (l1 : List Int) (A2 : Option Addr) (c2 : Nat) (l2 : List Int) (w : World) (hs0_4 : Kd.V Kd.string 9 w w.heap.size (fun k_ => P0_4_ k_) (.slice A0_4 l0_4.length c0_4) l0_4) (hr1 : Kd.C (Kd.int .i64) w A1 l1.length l1) (hc1 : l1.length ≤ c1) (hr2 : Kd.C (Kd.int .i64) w A2 l2.length l2) (hc2 : l2.length ≤ c2) (h : backhaullaw22_ValueWhole.f k a0_0 a0_1 a0_2 a0_3 l0_4 l1 l2 = some true) :
    Calls Try.prog 19 #[.agg #[.int .i64 a0_0, .int .i64 a0_1, .int .i64 a0_2, .int .i64 a0_3, .slice A0_4 l0_4.length c0_4], .slice A1 l1.length c1, .slice A2 l2.length c2] w fun e w' => e = .returned (.bool true) ∧ Below w.heap.size w w' := by
  have hu71 := Try.underlying71
  have HO0_4 := zA (show Kd.V Kd.string 9 w w.heap.size (fun k_ => (P0_4_ k_ ∨ w.heap.size ≤ k_)) (.slice A0_4 l0_4.length c0_4) l0_4 from Kd.V_mono hs0_4 (fun k_ hk => .inl hk))
  have HR1 := zA hr1
  have HC1 := zA hc1
  clear hr1 hc1
  have HR2 := zA hr2
  have HC2 := zA hc2
  clear hr2 hc2
  have HB := zA (Below.refl w.heap.size w)
  have H : ((backhaullaw21_Few.f k (([(⟨a0_0, a0_1, a0_2, a0_3, l0_4⟩ : S71)] : List (S71)))).bind fun t105 => (if t105 = true then (if (l1.length : Int) > 100 then (backhaullaw22_ValueWhole.j0 k l1 l2 true a0_0 a0_1 a0_2 a0_3 l0_4) else (backhaullaw22_ValueWhole.j0 k l1 l2 (decide ((l2.length : Int) > 100)) a0_0 a0_1 a0_2 a0_3 l0_4)) else (backhaullaw22_ValueWhole.j0 k l1 l2 true a0_0 a0_1 a0_2 a0_3 l0_4))) = some true := h
  clear h
  have HC4 := zA H
  clear H
  go_enter Try.func19, Try.ntmps19
  go_upto_region 1 with (first | ((with_reducible refine gate_dst (N := 3) rfl ?_); (try (refine gate_guard (by rfl) ?_; dsimp only)); refine box_event qr (N := 3) qr (cs := #[.int .i64 a0_0, .int .i64 a0_1, .int .i64 a0_2, .int .i64 a0_3, .slice A0_4 l0_4.length c0_4]) (t := 71) qg ?_; intro gb101 hg w5 hbox hb; have n0_ := zA (Kd.V_below (Kd.V_elderB (by (with_reducible repeat (first | apply Kd.V_alloc | apply Kd.V_drewN | apply Kd.V_drew)); exact HO0_4.out) gb101 (Nat.le_of_eq hg.symm)) hb); have n1_ := zA (zV qB hb); have n2_ := zA (hbox); have n3_ := zA ((qS : w.heap.size ≤ gb101)); have n4_ := zA ((qS : w.heap.size ≤ gb101)); clear HO0_4 HB; have HO0_4 := n0_; have HB := n1_; have BK101 := n2_; have GW101 := n3_; have GE101 := n4_; clear n0_ n1_ n2_ n3_ n4_ hb hbox hg))
  (try simp only [Act.put, zH, zI, zJ])
  go_cut [30] (fun v30 wc => ∃ (kq : Nat) (x30_3 : Bool), v30 = .bool x30_3 ∧ Aside0 (backhaullaw22_ValueWhole.j0 kq l1 l2 x30_3 a0_0 a0_1 a0_2 a0_3 l0_4 = some true) ∧ Aside0 (kq ≤ k) ∧ Aside0 (Kd.V Kd.string 9 wc w.heap.size (fun k_ => (P0_4_ k_ ∨ w.heap.size ≤ k_) ∧ k_ ≠ gb101) (.slice A0_4 l0_4.length c0_4) l0_4) ∧ Aside0 (wc.heap[gb101]? = some (.cells #[.int .i64 a0_0, .int .i64 a0_1, .int .i64 a0_2, .int .i64 a0_3, (.slice A0_4 l0_4.length c0_4)] 71 (0, 0))) ∧ Aside0 (Below w.heap.size w wc))
  case first =>
    have H := HC4.out; clear HC4; obtain ⟨y102, hy102⟩ : ∃ y_ : List (S71), y_ = (([(⟨a0_0, a0_1, a0_2, a0_3, l0_4⟩ : S71)] : List (S71))) := ⟨_, rfl⟩
    replace H : ((backhaullaw21_Few.f k y102).bind fun t105 => (if t105 = true then (if (l1.length : Int) > 100 then (backhaullaw22_ValueWhole.j0 k l1 l2 true a0_0 a0_1 a0_2 a0_3 l0_4) else (backhaullaw22_ValueWhole.j0 k l1 l2 (decide ((l2.length : Int) > 100)) a0_0 a0_1 a0_2 a0_3 l0_4)) else (backhaullaw22_ValueWhole.j0 k l1 l2 true a0_0 a0_1 a0_2 a0_3 l0_4))) = some true := by first | (rw [hy102]; with_reducible exact H) | (have H2_ := (Option.bind_some _ _).symm.trans H; rw [hy102]; with_reducible exact H2_) | (have H2_ := (Option.bind_some _ _).symm.trans H; with_reducible exact H2_) | with_reducible exact H | (rw [hy102]; exact H) | exact H
    have Ny102 := zA hy102; clear hy102; replace H := Option.bind_eq_some_iff.mp H; obtain ⟨t105, A60, H⟩ := H; replace H : (if t105 = true then (if (l1.length : Int) > 100 then (backhaullaw22_ValueWhole.j0 k l1 l2 true a0_0 a0_1 a0_2 a0_3 l0_4) else (backhaullaw22_ValueWhole.j0 k l1 l2 (decide ((l2.length : Int) > 100)) a0_0 a0_1 a0_2 a0_3 l0_4)) else (backhaullaw22_ValueWhole.j0 k l1 l2 true a0_0 a0_1 a0_2 a0_3 l0_4)) = some true := H; have A6 := zA A60; clear A60; by_cases c7 : t105 = true
    · subst c7
      have H1 : (if (l1.length : Int) > 100 then (backhaullaw22_ValueWhole.j0 k l1 l2 true a0_0 a0_1 a0_2 a0_3 l0_4) else (backhaullaw22_ValueWhole.j0 k l1 l2 (decide ((l2.length : Int) > 100)) a0_0 a0_1 a0_2 a0_3 l0_4)) = some true := by first | (rw [if_pos rfl] at H; exact H) | rfl
      clear H; have H := H1; clear H1; by_cases c8 : (l1.length : Int) > 100
      · rw [if_pos c8] at H
        have c8b0 : decide (100 < (l1.length : Int)) = true := zFq c8; have c8b1 : decide (100 < l1.length) = true := zFq (by omega); clear c8; (first | rw [c8b0] | (simp only [i64_w, i32_w]; rw [c8b0]) | skip)
        have H' := zA H; clear H; obtain ⟨_, _, _, _, _, _, _, _, _, _⟩ := qc5f BK101.out; go_wp2_with (first | ((with_reducible refine gate_dst (N := 18) rfl ?_); (try (refine gate_guard (by rfl) ?_; dsimp only)); refine Kd.N_lit k71 _ 71 ?hg (N' := 18) ?hd (xs := ([(⟨a0_0, a0_1, a0_2, a0_3, l0_4⟩ : S71)] : List (S71))) (inner := [.int .i64 a0_0, .int .i64 a0_1, .int .i64 a0_2, .int .i64 a0_3, .slice A0_4 l0_4.length c0_4]) (ok := (fun k_ => (P0_4_ k_ ∨ w.heap.size ≤ k_) ∧ k_ ≠ gb101)) (okp := (fun k_ => (P0_4_ k_ ∨ w.heap.size ≤ k_) ∧ k_ ≠ gb101)) ?hr ?hp (fun _ hk => hk) ((show ∀ k_, w5.heap.size ≤ k_ → (fun k_ => (P0_4_ k_ ∨ w.heap.size ≤ k_) ∧ k_ ≠ gb101) k_ from fun k_ hk => ⟨(.inr (Nat.le_trans (zW qB) hk)), Kd.freshB (g := gb101) (o := .cells #[.int .i64 a0_0, .int .i64 a0_1, .int .i64 a0_2, .int .i64 a0_3, .slice A0_4 l0_4.length c0_4] 71 (0, 0)) (qW BK101.out) k_ hk⟩) _ (Nat.le_refl _)) (Below.refl _ _) (Nat.le_refl _) (by simp) ?_; (case hd => rfl); (case hg => rfl); (case hr => first | (go_simp; done) | (go_simp; rfl)); (case hp => exact (Reps.c5 (show Kd.FK k71 _ _ (⟨a0_0, a0_1, a0_2, a0_3, l0_4⟩ : S71) [.int .i64 a0_0, .int .i64 a0_1, .int .i64 a0_2, .int .i64 a0_3, .slice A0_4 l0_4.length c0_4] from (k71_mkF _ _ (⟨a0_0, a0_1, a0_2, a0_3, l0_4⟩ : S71) (Kd.V_reads' (Kd.V_mono (ok' := (fun k_ => (P0_4_ k_ ∨ w.heap.size ≤ k_) ∧ k_ ≠ gb101)) (HO0_4.out) (fun k_ hk => ⟨hk.1, hk.2⟩))).2.1 (Kd.V_F (Kd.V_mono (ok' := (fun k_ => (P0_4_ k_ ∨ w.heap.size ≤ k_) ∧ k_ ≠ gb101)) (HO0_4.out) (fun k_ hk => ⟨hk.1, hk.2⟩))))) (Reps.none _ _))); intro v103 w10 ho11 hb hg_ hnew_; clear hg_ hnew_; (first | rw [← Ny102.out] at ho11 | (simp only [Int.reduceToNat] at ho11; rw [← Ny102.out] at ho11)); have n0_ := zA (Kd.V_elder' (by (with_reducible repeat (first | apply Kd.V_alloc | apply Kd.V_drewN | apply Kd.V_drew)); exact HO0_4.out) (Kd.N_base ho11) hb); have n1_ := zA (Kd.N_lower ho11 (zW qB)); have n2_ := zA (qX BK101.out hb); have n3_ := zA (zV qB hb); clear HO0_4 BK101 HB; have HO0_4 := n0_; have HO104 := n1_; have BK101 := n2_; have HB := n3_; clear n0_ n1_ n2_ n3_ hb ho11; obtain ⟨Ao12, co12, eo12⟩ := Kd.N_slice HO104.out; subst eo12) | ((with_reducible refine zJq (f := 60) rfl ?_); refine goesL_ (some 19) rfl rfl Try.func60 (by kernel_rfl) rfl #[.slice Ao12 y102.length co12] rfl (by (try simp only [zR, zS, zT]); first | done | rfl | (simp only [zP, zQ]; rfl)) ?_; (with_reducible refine (backhaullaw21_Few.calls k _ _ y102 true _ ?side1 ?side2 A6.out).mono ?_); (case side1 => repeat (first | exact (Kd.N_reads' HO104.out).2.2 | (with_reducible refine Kd.C_alloc ?_ _) | (with_reducible refine Kd.C_drewN ?_ _) | (with_reducible refine Kd.C_drew ?_))); (case side2 => exact (Kd.N_reads' HO104.out).2.1); rintro e w' ⟨rfl, ⟨nd, rfl⟩⟩; refine ⟨_, rfl, ?_⟩)); go_meet
        case rel => exact ⟨_, (true), (by first | rfl | (simp; done) | (simp [*]; done)), H', ⟨by first | omega | exact Nat.le_refl _⟩, ⟨by (with_reducible repeat (first | apply Kd.V_alloc | apply Kd.V_drewN | apply Kd.V_drew)); exact Kd.V_mono HO0_4.out (fun _ hk => ⟨hk.1.1, hk.1.2⟩)⟩, ⟨by exact BK101.out⟩, ⟨qB⟩⟩
      rw [if_neg c8] at H; have c8b0 : decide (100 < (l1.length : Int)) = false := zGq c8; have c8b1 : decide (100 < l1.length) = false := zGq (by omega); clear c8; (first | rw [c8b0] | (simp only [i64_w, i32_w]; rw [c8b0]) | skip)
      have H' := zA H; clear H; obtain ⟨_, _, _, _, _, _, _, _, _, _⟩ := qc5f BK101.out; go_wp2_with (first | ((with_reducible refine gate_dst (N := 18) rfl ?_); (try (refine gate_guard (by rfl) ?_; dsimp only)); refine Kd.N_lit k71 _ 71 ?hg (N' := 18) ?hd (xs := ([(⟨a0_0, a0_1, a0_2, a0_3, l0_4⟩ : S71)] : List (S71))) (inner := [.int .i64 a0_0, .int .i64 a0_1, .int .i64 a0_2, .int .i64 a0_3, .slice A0_4 l0_4.length c0_4]) (ok := (fun k_ => (P0_4_ k_ ∨ w.heap.size ≤ k_) ∧ k_ ≠ gb101)) (okp := (fun k_ => (P0_4_ k_ ∨ w.heap.size ≤ k_) ∧ k_ ≠ gb101)) ?hr ?hp (fun _ hk => hk) ((show ∀ k_, w5.heap.size ≤ k_ → (fun k_ => (P0_4_ k_ ∨ w.heap.size ≤ k_) ∧ k_ ≠ gb101) k_ from fun k_ hk => ⟨(.inr (Nat.le_trans (zW qB) hk)), Kd.freshB (g := gb101) (o := .cells #[.int .i64 a0_0, .int .i64 a0_1, .int .i64 a0_2, .int .i64 a0_3, .slice A0_4 l0_4.length c0_4] 71 (0, 0)) (qW BK101.out) k_ hk⟩) _ (Nat.le_refl _)) (Below.refl _ _) (Nat.le_refl _) (by simp) ?_; (case hd => rfl); (case hg => rfl); (case hr => first | (go_simp; done) | (go_simp; rfl)); (case hp => exact (Reps.c5 (show Kd.FK k71 _ _ (⟨a0_0, a0_1, a0_2, a0_3, l0_4⟩ : S71) [.int .i64 a0_0, .int .i64 a0_1, .int .i64 a0_2, .int .i64 a0_3, .slice A0_4 l0_4.length c0_4] from (k71_mkF _ _ (⟨a0_0, a0_1, a0_2, a0_3, l0_4⟩ : S71) (Kd.V_reads' (Kd.V_mono (ok' := (fun k_ => (P0_4_ k_ ∨ w.heap.size ≤ k_) ∧ k_ ≠ gb101)) (HO0_4.out) (fun k_ hk => ⟨hk.1, hk.2⟩))).2.1 (Kd.V_F (Kd.V_mono (ok' := (fun k_ => (P0_4_ k_ ∨ w.heap.size ≤ k_) ∧ k_ ≠ gb101)) (HO0_4.out) (fun k_ hk => ⟨hk.1, hk.2⟩))))) (Reps.none _ _))); intro v103 w14 ho15 hb hg_ hnew_; clear hg_ hnew_; (first | rw [← Ny102.out] at ho15 | (simp only [Int.reduceToNat] at ho15; rw [← Ny102.out] at ho15)); have n0_ := zA (Kd.V_elder' (by (with_reducible repeat (first | apply Kd.V_alloc | apply Kd.V_drewN | apply Kd.V_drew)); exact HO0_4.out) (Kd.N_base ho15) hb); have n1_ := zA (Kd.N_lower ho15 (zW qB)); have n2_ := zA (qX BK101.out hb); have n3_ := zA (zV qB hb); clear HO0_4 BK101 HB; have HO0_4 := n0_; have HO104 := n1_; have BK101 := n2_; have HB := n3_; clear n0_ n1_ n2_ n3_ hb ho15; obtain ⟨Ao16, co16, eo16⟩ := Kd.N_slice HO104.out; subst eo16) | ((with_reducible refine zJq (f := 60) rfl ?_); refine goesL_ (some 19) rfl rfl Try.func60 (by kernel_rfl) rfl #[.slice Ao16 y102.length co16] rfl (by (try simp only [zR, zS, zT]); first | done | rfl | (simp only [zP, zQ]; rfl)) ?_; (with_reducible refine (backhaullaw21_Few.calls k _ _ y102 true _ ?side1 ?side2 A6.out).mono ?_); (case side1 => repeat (first | exact (Kd.N_reads' HO104.out).2.2 | (with_reducible refine Kd.C_alloc ?_ _) | (with_reducible refine Kd.C_drewN ?_ _) | (with_reducible refine Kd.C_drew ?_))); (case side2 => exact (Kd.N_reads' HO104.out).2.1); rintro e w' ⟨rfl, ⟨nd, rfl⟩⟩; refine ⟨_, rfl, ?_⟩)); go_meet
      case rel => exact ⟨_, (decide ((l2.length : Int) > 100)), (by first | rfl | (simp; done) | (simp [*]; done)), H', ⟨by first | omega | exact Nat.le_refl _⟩, ⟨by (with_reducible repeat (first | apply Kd.V_alloc | apply Kd.V_drewN | apply Kd.V_drew)); exact Kd.V_mono HO0_4.out (fun _ hk => ⟨hk.1.1, hk.1.2⟩)⟩, ⟨by exact BK101.out⟩, ⟨qB⟩⟩
    replace c7 := Bool.eq_false_iff.mpr c7; subst c7; have H1 : (backhaullaw22_ValueWhole.j0 k l1 l2 true a0_0 a0_1 a0_2 a0_3 l0_4) = some true := by first | (rw [if_neg (show ¬ (false = true) by decide)] at H; exact H) | rfl
    clear H; have H := H1; clear H1; have H' := zA H; clear H; obtain ⟨_, _, _, _, _, _, _, _, _, _⟩ := qc5f BK101.out; go_wp2_with (first | ((with_reducible refine gate_dst (N := 18) rfl ?_); (try (refine gate_guard (by rfl) ?_; dsimp only)); refine Kd.N_lit k71 _ 71 ?hg (N' := 18) ?hd (xs := ([(⟨a0_0, a0_1, a0_2, a0_3, l0_4⟩ : S71)] : List (S71))) (inner := [.int .i64 a0_0, .int .i64 a0_1, .int .i64 a0_2, .int .i64 a0_3, .slice A0_4 l0_4.length c0_4]) (ok := (fun k_ => (P0_4_ k_ ∨ w.heap.size ≤ k_) ∧ k_ ≠ gb101)) (okp := (fun k_ => (P0_4_ k_ ∨ w.heap.size ≤ k_) ∧ k_ ≠ gb101)) ?hr ?hp (fun _ hk => hk) ((show ∀ k_, w5.heap.size ≤ k_ → (fun k_ => (P0_4_ k_ ∨ w.heap.size ≤ k_) ∧ k_ ≠ gb101) k_ from fun k_ hk => ⟨(.inr (Nat.le_trans (zW qB) hk)), Kd.freshB (g := gb101) (o := .cells #[.int .i64 a0_0, .int .i64 a0_1, .int .i64 a0_2, .int .i64 a0_3, .slice A0_4 l0_4.length c0_4] 71 (0, 0)) (qW BK101.out) k_ hk⟩) _ (Nat.le_refl _)) (Below.refl _ _) (Nat.le_refl _) (by simp) ?_; (case hd => rfl); (case hg => rfl); (case hr => first | (go_simp; done) | (go_simp; rfl)); (case hp => exact (Reps.c5 (show Kd.FK k71 _ _ (⟨a0_0, a0_1, a0_2, a0_3, l0_4⟩ : S71) [.int .i64 a0_0, .int .i64 a0_1, .int .i64 a0_2, .int .i64 a0_3, .slice A0_4 l0_4.length c0_4] from (k71_mkF _ _ (⟨a0_0, a0_1, a0_2, a0_3, l0_4⟩ : S71) (Kd.V_reads' (Kd.V_mono (ok' := (fun k_ => (P0_4_ k_ ∨ w.heap.size ≤ k_) ∧ k_ ≠ gb101)) (HO0_4.out) (fun k_ hk => ⟨hk.1, hk.2⟩))).2.1 (Kd.V_F (Kd.V_mono (ok' := (fun k_ => (P0_4_ k_ ∨ w.heap.size ≤ k_) ∧ k_ ≠ gb101)) (HO0_4.out) (fun k_ hk => ⟨hk.1, hk.2⟩))))) (Reps.none _ _))); intro v103 w18 ho19 hb hg_ hnew_; clear hg_ hnew_; (first | rw [← Ny102.out] at ho19 | (simp only [Int.reduceToNat] at ho19; rw [← Ny102.out] at ho19)); have n0_ := zA (Kd.V_elder' (by (with_reducible repeat (first | apply Kd.V_alloc | apply Kd.V_drewN | apply Kd.V_drew)); exact HO0_4.out) (Kd.N_base ho19) hb); have n1_ := zA (Kd.N_lower ho19 (zW qB)); have n2_ := zA (qX BK101.out hb); have n3_ := zA (zV qB hb); clear HO0_4 BK101 HB; have HO0_4 := n0_; have HO104 := n1_; have BK101 := n2_; have HB := n3_; clear n0_ n1_ n2_ n3_ hb ho19; obtain ⟨Ao20, co20, eo20⟩ := Kd.N_slice HO104.out; subst eo20) | ((with_reducible refine zJq (f := 60) rfl ?_); refine goesL_ (some 19) rfl rfl Try.func60 (by kernel_rfl) rfl #[.slice Ao20 y102.length co20] rfl (by (try simp only [zR, zS, zT]); first | done | rfl | (simp only [zP, zQ]; rfl)) ?_; (with_reducible refine (backhaullaw21_Few.calls k _ _ y102 false _ ?side1 ?side2 A6.out).mono ?_); (case side1 => repeat (first | exact (Kd.N_reads' HO104.out).2.2 | (with_reducible refine Kd.C_alloc ?_ _) | (with_reducible refine Kd.C_drewN ?_ _) | (with_reducible refine Kd.C_drew ?_))); (case side2 => exact (Kd.N_reads' HO104.out).2.1); rintro e w' ⟨rfl, ⟨nd, rfl⟩⟩; refine ⟨_, rfl, ?_⟩)); go_meet
    case rel => exact ⟨_, (true), (by first | rfl | (simp; done) | (simp [*]; done)), H', ⟨by first | omega | exact Nat.le_refl _⟩, ⟨by (with_reducible repeat (first | apply Kd.V_alloc | apply Kd.V_drewN | apply Kd.V_drew)); exact Kd.V_mono HO0_4.out (fun _ hk => ⟨hk.1.1, hk.1.2⟩)⟩, ⟨by exact BK101.out⟩, ⟨qB⟩⟩
  case rest =>
    clear HC4; try clear c1
    try clear c2
    try clear p2
    try clear c5
    try clear c6
    try clear c7
    try clear c8
    try clear c8b0
    try clear c8b1
    try clear c19
    obtain ⟨kq, x30_3, rfl, HA, HJ3, HO_102004, BK101, HB⟩ := hcut; cases kq with
    | zero => exact absurd HA.out (by simp [backhaullaw22_ValueWhole.j0])
    | succ kj3 =>
      have H := HA.out; clear HA; simp only [backhaullaw22_ValueWhole.j0] at H; by_cases c21 : x30_3 = true
      · subst c21
        have H1 : ((backhaullaw22_awake.f).bind fun t106 => (if t106 = true then (some true) else (some false))) = some true := by first | (rw [if_pos rfl] at H; exact H) | rfl
        clear H; have H := H1; clear H1; replace H := Option.bind_eq_some_iff.mp H; obtain ⟨t106, A220, H⟩ := H; replace H : (if t106 = true then (some true) else (some false)) = some true := H; have A22 := zA A220; clear A220; by_cases c23 : t106 = true
        · subst c23
          have H1 : (some true) = some true := by first | (rw [if_pos rfl] at H; exact H) | rfl
          clear H; have H := H1; clear H1; clear H; go_wp2_with (first | ((with_reducible refine zJq (f := 73) rfl ?_); refine goesL_ (some 31) rfl rfl Try.func73 (by kernel_rfl) rfl #[] rfl (by (try simp only [zR, zS, zT]); first | done | rfl | (simp only [zP, zQ]; rfl)) ?_; (with_reducible refine (backhaullaw22_awake.calls  true _ A22.out).mono ?_); rintro e w24 ⟨rfl, hb⟩; refine ⟨_, rfl, ?_⟩; have n0_ := zA (Kd.V_below (by (with_reducible repeat (first | apply Kd.V_alloc | apply Kd.V_drewN | apply Kd.V_drew)); exact HO_102004.out) hb); have n1_ := zA (qX BK101.out hb); have n2_ := zA (zV qB hb); clear HO_102004 BK101 HB; have HO_102004 := n0_; have BK101 := n1_; have HB := n2_; clear n0_ n1_ n2_; (try clear hb); (try clear hb2); (try clear hk); (try clear hi))); go_ret; exact ⟨qE, qB⟩
        replace c23 := Bool.eq_false_iff.mpr c23; subst c23; have H1 : (some false) = some true := by first | (rw [if_neg (show ¬ (false = true) by decide)] at H; exact H) | rfl
        clear H; have H := H1; clear H1; exact absurd H (by simp)
      replace c21 := Bool.eq_false_iff.mpr c21; subst c21; have H1 : ((value_All.f kj3 a0_0 a0_1 a0_2 a0_3 l0_4 l1 l2).bind fun bt107 => (if bt107.2.2 = 0 then ((line_Paid.f kj3 a0_0 a0_1 a0_2 a0_3 l0_4).bind fun bt113 => ((value_Most.f kj3 a0_0 a0_1 a0_2 a0_3 l0_4 l1).bind fun bt115 => (if bt113.2 = 0 then (if bt115.2 = 0 then (if bt107.2.1 < 0 then (backhaullaw22_ValueWhole.j1 kj3 l1 l2 bt107.1 bt107.2.1 bt113.1 true) else (if bt107.2.1 > bt115.1 then (backhaullaw22_ValueWhole.j1 kj3 l1 l2 bt107.1 bt107.2.1 bt113.1 true) else (if bt115.1 > bt113.1 then (backhaullaw22_ValueWhole.j1 kj3 l1 l2 bt107.1 bt107.2.1 bt113.1 true) else (backhaullaw22_ValueWhole.j1 kj3 l1 l2 bt107.1 bt107.2.1 bt113.1 ((bt107.1.length : Int) != (l2.length : Int)))))) else (backhaullaw22_ValueWhole.j1 kj3 l1 l2 bt107.1 bt107.2.1 bt113.1 true)) else (backhaullaw22_ValueWhole.j1 kj3 l1 l2 bt107.1 bt107.2.1 bt113.1 true)))) else (if (bt107.1.length : Int) = 0 then (if bt107.2.1 = 0 then ((backhaullaw22_awake.f).bind fun t112 => (if t112 = true then (some true) else (some false))) else (some false)) else (some false)))) = some true := by first | (rw [if_neg (show ¬ (false = true) by decide)] at H; exact H) | rfl
      clear H; have H := H1; clear H1; replace H := Option.bind_eq_some_iff.mp H; obtain ⟨⟨t107, t110, t111⟩, A250, H⟩ := H; replace H : (if t111 = 0 then ((line_Paid.f kj3 a0_0 a0_1 a0_2 a0_3 l0_4).bind fun bt113 => ((value_Most.f kj3 a0_0 a0_1 a0_2 a0_3 l0_4 l1).bind fun bt115 => (if bt113.2 = 0 then (if bt115.2 = 0 then (if t110 < 0 then (backhaullaw22_ValueWhole.j1 kj3 l1 l2 t107 t110 bt113.1 true) else (if t110 > bt115.1 then (backhaullaw22_ValueWhole.j1 kj3 l1 l2 t107 t110 bt113.1 true) else (if bt115.1 > bt113.1 then (backhaullaw22_ValueWhole.j1 kj3 l1 l2 t107 t110 bt113.1 true) else (backhaullaw22_ValueWhole.j1 kj3 l1 l2 t107 t110 bt113.1 ((t107.length : Int) != (l2.length : Int)))))) else (backhaullaw22_ValueWhole.j1 kj3 l1 l2 t107 t110 bt113.1 true)) else (backhaullaw22_ValueWhole.j1 kj3 l1 l2 t107 t110 bt113.1 true)))) else (if (t107.length : Int) = 0 then (if t110 = 0 then ((backhaullaw22_awake.f).bind fun t112 => (if t112 = true then (some true) else (some false))) else (some false)) else (some false))) = some true := H; have A25 := zA A250; clear A250; by_cases c26 : t111 = 0
      · rw [if_pos c26] at H
        have c26b0 : (t111 == 0) = true := beq_iff_eq.mpr c26; have c26b1 : (t111 != 0) = false := bne_eq_false_iff_eq.mpr c26; clear c26; replace H := Option.bind_eq_some_iff.mp H; obtain ⟨⟨t113, t114⟩, A270, H⟩ := H; replace H : ((value_Most.f kj3 a0_0 a0_1 a0_2 a0_3 l0_4 l1).bind fun bt115 => (if t114 = 0 then (if bt115.2 = 0 then (if t110 < 0 then (backhaullaw22_ValueWhole.j1 kj3 l1 l2 t107 t110 t113 true) else (if t110 > bt115.1 then (backhaullaw22_ValueWhole.j1 kj3 l1 l2 t107 t110 t113 true) else (if bt115.1 > t113 then (backhaullaw22_ValueWhole.j1 kj3 l1 l2 t107 t110 t113 true) else (backhaullaw22_ValueWhole.j1 kj3 l1 l2 t107 t110 t113 ((t107.length : Int) != (l2.length : Int)))))) else (backhaullaw22_ValueWhole.j1 kj3 l1 l2 t107 t110 t113 true)) else (backhaullaw22_ValueWhole.j1 kj3 l1 l2 t107 t110 t113 true))) = some true := H; have A27 := zA A270; clear A270; replace H := Option.bind_eq_some_iff.mp H; obtain ⟨⟨t115, t116⟩, A280, H⟩ := H; replace H : (if t114 = 0 then (if t116 = 0 then (if t110 < 0 then (backhaullaw22_ValueWhole.j1 kj3 l1 l2 t107 t110 t113 true) else (if t110 > t115 then (backhaullaw22_ValueWhole.j1 kj3 l1 l2 t107 t110 t113 true) else (if t115 > t113 then (backhaullaw22_ValueWhole.j1 kj3 l1 l2 t107 t110 t113 true) else (backhaullaw22_ValueWhole.j1 kj3 l1 l2 t107 t110 t113 ((t107.length : Int) != (l2.length : Int)))))) else (backhaullaw22_ValueWhole.j1 kj3 l1 l2 t107 t110 t113 true)) else (backhaullaw22_ValueWhole.j1 kj3 l1 l2 t107 t110 t113 true)) = some true := H; have A28 := zA A280; clear A280; have HC29 := zA H; clear H; obtain ⟨_, _, _, _, _, _, _, _, _, _⟩ := qc5f BK101.out; go_upto_region 8 with (first | ((with_reducible refine zJq (f := 78) rfl ?_); refine goesL_ (some 36) rfl rfl Try.func78 (by kernel_rfl) rfl #[.agg #[.int .i64 a0_0, .int .i64 a0_1, .int .i64 a0_2, .int .i64 a0_3, .slice A0_4 l0_4.length c0_4], .slice A1 l1.length c1, .slice A2 l2.length c2] rfl (by (try simp only [zR, zS, zT]); first | done | rfl | (simp only [zP, zQ]; rfl)) ?_; (with_reducible refine (value_All.calls kj3 a0_0 a0_1 a0_2 a0_3 _ _ l0_4 _ _ l1 _ _ l2 t107 t110 t111 _ ?side1 ?side2 ?side3 ?side4 ?side5 ?side6 A25.out).mono ?_); (case side1 => repeat (first | exact (Kd.V_reads' HO_102004.out).2.2 | (with_reducible refine Kd.C_alloc ?_ _) | (with_reducible refine Kd.C_drewN ?_ _) | (with_reducible refine Kd.C_drew ?_))); (case side2 => exact (Kd.V_reads' HO_102004.out).2.1); (case side3 => exact qC (Kd.C_below HR1.out HB.out)); (case side4 => exact HC1.out); (case side5 => exact qC (Kd.C_below HR2.out HB.out)); (case side6 => exact HC2.out); rintro e w31 ⟨v108, rfl, ho0, hb⟩; refine ⟨_, rfl, ?_⟩; have n0_ := zA (Kd.V_elder' (by (with_reducible repeat (first | apply Kd.V_alloc | apply Kd.V_drewN | apply Kd.V_drew)); exact HO_102004.out) (Kd.R_base ho0) hb); have n1_ := zA (Kd.R_lower (Kd.R_newM (M := fun k_ => (w.heap.size ≤ k_)) ho0 (zW qB) (fun k_ h_ => h_)) (zW qB)); have n2_ := zA (qX BK101.out hb); have n3_ := zA (zV qB hb); clear HO_102004 BK101 HB; have HO_102004 := n0_; have HO109 := n1_; have BK101 := n2_; have HB := n3_; clear n0_ n1_ n2_ n3_; (try clear hb); (try clear hb2); (try clear hk); (try clear hi); (try clear ho0); obtain ⟨_, _, _, _, _, _, _, _, _, _⟩ := qc5f BK101.out) | ((with_reducible refine zJq (f := 67) rfl ?_); refine goesL_ (some 54) rfl rfl Try.func67 (by kernel_rfl) rfl #[.agg #[.int .i64 a0_0, .int .i64 a0_1, .int .i64 a0_2, .int .i64 a0_3, .slice A0_4 l0_4.length c0_4]] rfl (by (try simp only [zR, zS, zT]); first | done | rfl | (simp only [zP, zQ]; rfl)) ?_; (with_reducible refine (line_Paid.calls kj3 a0_0 a0_1 a0_2 a0_3 _ _ l0_4 t113 t114 _ ?side1 ?side2 A27.out).mono ?_); (case side1 => repeat (first | exact (Kd.V_reads' HO_102004.out).2.2 | (with_reducible refine Kd.C_alloc ?_ _) | (with_reducible refine Kd.C_drewN ?_ _) | (with_reducible refine Kd.C_drew ?_))); (case side2 => exact (Kd.V_reads' HO_102004.out).2.1); rintro e w33 ⟨rfl, hb⟩; refine ⟨_, rfl, ?_⟩; have n0_ := zA (Kd.V_below (by (with_reducible repeat (first | apply Kd.V_alloc | apply Kd.V_drewN | apply Kd.V_drew)); exact HO_102004.out) hb); have n1_ := zA (Kd.R_below (by (with_reducible repeat (first | apply Kd.R_alloc | apply Kd.R_drewN | apply Kd.R_drew)); exact HO109.out) hb); have n2_ := zA (qX BK101.out hb); have n3_ := zA (zV qB hb); clear HO_102004 HO109 BK101 HB; have HO_102004 := n0_; have HO109 := n1_; have BK101 := n2_; have HB := n3_; clear n0_ n1_ n2_ n3_; (try clear hb); (try clear hb2); (try clear hk); (try clear hi); obtain ⟨_, _, _, _, _, _, _, _, _, _⟩ := qc5f BK101.out) | ((with_reducible refine zJq (f := 80) rfl ?_); refine goesL_ (some 60) rfl rfl Try.func80 (by kernel_rfl) rfl #[.agg #[.int .i64 a0_0, .int .i64 a0_1, .int .i64 a0_2, .int .i64 a0_3, .slice A0_4 l0_4.length c0_4], .slice A1 l1.length c1] rfl (by (try simp only [zR, zS, zT]); first | done | rfl | (simp only [zP, zQ]; rfl)) ?_; (with_reducible refine (value_Most.calls kj3 a0_0 a0_1 a0_2 a0_3 _ _ l0_4 _ _ l1 t115 t116 _ ?side1 ?side2 ?side3 ?side4 A28.out).mono ?_); (case side1 => repeat (first | exact (Kd.V_reads' HO_102004.out).2.2 | (with_reducible refine Kd.C_alloc ?_ _) | (with_reducible refine Kd.C_drewN ?_ _) | (with_reducible refine Kd.C_drew ?_))); (case side2 => exact (Kd.V_reads' HO_102004.out).2.1); (case side3 => exact qC (Kd.C_below HR1.out HB.out)); (case side4 => exact HC1.out); rintro e w35 ⟨rfl, hb⟩; refine ⟨_, rfl, ?_⟩; have n0_ := zA (Kd.V_below (by (with_reducible repeat (first | apply Kd.V_alloc | apply Kd.V_drewN | apply Kd.V_drew)); exact HO_102004.out) hb); have n1_ := zA (Kd.R_below (by (with_reducible repeat (first | apply Kd.R_alloc | apply Kd.R_drewN | apply Kd.R_drew)); exact HO109.out) hb); have n2_ := zA (qX BK101.out hb); have n3_ := zA (zV qB hb); clear HO_102004 HO109 BK101 HB; have HO_102004 := n0_; have HO109 := n1_; have BK101 := n2_; have HB := n3_; clear n0_ n1_ n2_ n3_; (try clear hb); (try clear hb2); (try clear hk); (try clear hi)))
        (try simp only [Act.put, zH, zI, zJ])
        go_cut [89] (fun v89 wc => ∃ (kq : Nat) (x89_28 : Bool), v89 = .bool x89_28 ∧ Aside0 (backhaullaw22_ValueWhole.j1 kq l1 l2 t107 t110 t113 x89_28 = some true) ∧ Aside0 (kq ≤ kj3) ∧ Aside0 (Kd.R (Kd.int .i64) 3 wc w.heap.size (fun k_ => (w.heap.size ≤ k_)) v108 t107) ∧ Aside0 (Kd.V Kd.string 9 wc w.heap.size (fun k_ => (P0_4_ k_ ∨ w.heap.size ≤ k_) ∧ some k_ ≠ (v108 : Value).ownBlock ∧ k_ ≠ gb101) (.slice A0_4 l0_4.length c0_4) l0_4) ∧ Aside0 (wc.heap[gb101]? = some (.cells #[.int .i64 a0_0, .int .i64 a0_1, .int .i64 a0_2, .int .i64 a0_3, (.slice A0_4 l0_4.length c0_4)] 71 (0, 0))) ∧ Aside0 (Below w.heap.size w wc))
        case first =>
          have H := HC29.out; clear HC29; by_cases c36 : t114 = 0
          · rw [if_pos c36] at H
            have c36b0 : (t114 == 0) = true := beq_iff_eq.mpr c36; have c36b1 : (t114 != 0) = false := bne_eq_false_iff_eq.mpr c36; clear c36; (first | rw [c36b0] | (simp only [i64_w, i32_w]; rw [c36b0]) | skip)
            by_cases c37 : t116 = 0
            · rw [if_pos c37] at H
              have c37b0 : (t116 == 0) = true := beq_iff_eq.mpr c37; have c37b1 : (t116 != 0) = false := bne_eq_false_iff_eq.mpr c37; clear c37; by_cases c38 : t110 < 0
              · rw [if_pos c38] at H
                have c38b0 : decide (t110 < 0) = true := zFq c38; clear c38; have H' := zA H; clear H; go_wp2; go_meet
                case rel => exact ⟨_, (true), (by first | rfl | (simp; done) | (simp [*]; done)), H', ⟨by have := HJ3.out; first | omega | exact Nat.le_refl _⟩, ⟨by (with_reducible repeat (first | apply Kd.R_alloc | apply Kd.R_drewN | apply Kd.R_drew)); exact Kd.R_mono HO109.out (fun _ hk => hk.1)⟩, ⟨by (with_reducible repeat (first | apply Kd.V_alloc | apply Kd.V_drewN | apply Kd.V_drew)); exact Kd.V_mono HO_102004.out (fun _ hk => ⟨hk.1.1, ⟨hk.2, hk.1.2⟩⟩)⟩, ⟨by exact BK101.out⟩, ⟨qB⟩⟩
              rw [if_neg c38] at H; have c38b0 : decide (t110 < 0) = false := zGq c38; clear c38; by_cases c39 : t110 > t115
              · rw [if_pos c39] at H
                have c39b0 : decide (t115 < t110) = true := zFq c39; clear c39; have H' := zA H; clear H; go_wp2; go_meet
                case rel => exact ⟨_, (true), (by first | rfl | (simp; done) | (simp [*]; done)), H', ⟨by have := HJ3.out; first | omega | exact Nat.le_refl _⟩, ⟨by (with_reducible repeat (first | apply Kd.R_alloc | apply Kd.R_drewN | apply Kd.R_drew)); exact Kd.R_mono HO109.out (fun _ hk => hk.1)⟩, ⟨by (with_reducible repeat (first | apply Kd.V_alloc | apply Kd.V_drewN | apply Kd.V_drew)); exact Kd.V_mono HO_102004.out (fun _ hk => ⟨hk.1.1, ⟨hk.2, hk.1.2⟩⟩)⟩, ⟨by exact BK101.out⟩, ⟨qB⟩⟩
              rw [if_neg c39] at H; have c39b0 : decide (t115 < t110) = false := zGq c39; clear c39; by_cases c40 : t115 > t113
              · rw [if_pos c40] at H
                have c40b0 : decide (t113 < t115) = true := zFq c40; clear c40; have H' := zA H; clear H; go_wp2; go_meet
                case rel => exact ⟨_, (true), (by first | rfl | (simp; done) | (simp [*]; done)), H', ⟨by have := HJ3.out; first | omega | exact Nat.le_refl _⟩, ⟨by (with_reducible repeat (first | apply Kd.R_alloc | apply Kd.R_drewN | apply Kd.R_drew)); exact Kd.R_mono HO109.out (fun _ hk => hk.1)⟩, ⟨by (with_reducible repeat (first | apply Kd.V_alloc | apply Kd.V_drewN | apply Kd.V_drew)); exact Kd.V_mono HO_102004.out (fun _ hk => ⟨hk.1.1, ⟨hk.2, hk.1.2⟩⟩)⟩, ⟨by exact BK101.out⟩, ⟨qB⟩⟩
              rw [if_neg c40] at H; have c40b0 : decide (t113 < t115) = false := zGq c40; clear c40; have H' := zA H; clear H; obtain ⟨Ao41, co41, eo41⟩ := Kd.R_slice HO109.out; subst eo41; go_wp2; go_meet
              case rel => exact ⟨_, (((t107.length : Int) != (l2.length : Int))), (by first | rfl | (simp; done) | (simp [*]; done)), H', ⟨by have := HJ3.out; first | omega | exact Nat.le_refl _⟩, ⟨by (with_reducible repeat (first | apply Kd.R_alloc | apply Kd.R_drewN | apply Kd.R_drew)); exact Kd.R_mono HO109.out (fun _ hk => hk.1)⟩, ⟨by (with_reducible repeat (first | apply Kd.V_alloc | apply Kd.V_drewN | apply Kd.V_drew)); exact Kd.V_mono HO_102004.out (fun _ hk => ⟨hk.1.1, ⟨hk.2, hk.1.2⟩⟩)⟩, ⟨by exact BK101.out⟩, ⟨qB⟩⟩
            rw [if_neg c37] at H; have c37b0 : (t116 == 0) = false := beq_eq_false_iff_ne.mpr c37; have c37b1 : (t116 != 0) = true := bne_iff_ne.mpr c37; have H' := zA H; clear H; go_wp2; go_meet
            case rel => exact ⟨_, (true), (by first | rfl | (simp; done) | (simp [*]; done)), H', ⟨by have := HJ3.out; first | omega | exact Nat.le_refl _⟩, ⟨by (with_reducible repeat (first | apply Kd.R_alloc | apply Kd.R_drewN | apply Kd.R_drew)); exact Kd.R_mono HO109.out (fun _ hk => hk.1)⟩, ⟨by (with_reducible repeat (first | apply Kd.V_alloc | apply Kd.V_drewN | apply Kd.V_drew)); exact Kd.V_mono HO_102004.out (fun _ hk => ⟨hk.1.1, ⟨hk.2, hk.1.2⟩⟩)⟩, ⟨by exact BK101.out⟩, ⟨qB⟩⟩
          rw [if_neg c36] at H; have c36b0 : (t114 == 0) = false := beq_eq_false_iff_ne.mpr c36; have c36b1 : (t114 != 0) = true := bne_iff_ne.mpr c36; (first | rw [c36b0] | (simp only [i64_w, i32_w]; rw [c36b0]) | skip)
          have H' := zA H; clear H; go_wp2; go_meet
          case rel => exact ⟨_, (true), (by first | rfl | (simp; done) | (simp [*]; done)), H', ⟨by have := HJ3.out; first | omega | exact Nat.le_refl _⟩, ⟨by (with_reducible repeat (first | apply Kd.R_alloc | apply Kd.R_drewN | apply Kd.R_drew)); exact Kd.R_mono HO109.out (fun _ hk => hk.1)⟩, ⟨by (with_reducible repeat (first | apply Kd.V_alloc | apply Kd.V_drewN | apply Kd.V_drew)); exact Kd.V_mono HO_102004.out (fun _ hk => ⟨hk.1.1, ⟨hk.2, hk.1.2⟩⟩)⟩, ⟨by exact BK101.out⟩, ⟨qB⟩⟩
        case rest =>
          clear HC29; try clear c1
          try clear c2
          try clear p2
          try clear c3
          try clear c4
          try clear c5
          try clear c6
          try clear c7
          try clear c8
          try clear c8b0
          try clear c8b1
          try clear c19
          try clear c21
          try clear c23
          try clear c26
          try clear c26b0
          try clear c26b1
          try clear c36
          try clear c36b0
          try clear c36b1
          try clear c37
          try clear c37b0
          try clear c37b1
          try clear c38
          try clear c38b0
          try clear c39
          try clear c39b0
          try clear c40
          try clear c40b0
          try clear p2
          obtain ⟨kq, x89_28, rfl, HA, HJ28, HO_7, HO_102004, BK101, HB⟩ := hcut; cases kq with
          | zero => exact absurd HA.out (by simp [backhaullaw22_ValueWhole.j1])
          | succ kj28 =>
            have H := HA.out; clear HA; simp only [backhaullaw22_ValueWhole.j1] at H; by_cases c42 : x89_28 = true
            · subst c42
              have H1 : (some false) = some true := by first | (rw [if_pos rfl] at H; exact H) | rfl
              clear H; have H := H1; clear H1; exact absurd H (by simp)
            replace c42 := Bool.eq_false_iff.mpr c42; subst c42; have H1 : (backhaullaw22_ValueWhole.l0 kj28 l1 l2 t107 t110 t113 true 0 0) = some true := by first | (rw [if_neg (show ¬ (false = true) by decide)] at H; exact H) | rfl
            clear H; have H := H1; clear H1; have H' := zA H; clear H; go_wp2; go_loopg [14, 15, 16] kj28 (fun kq v14 v15 v16 w' => ∃ (x14_3 : Bool) (x15_3 : Int) (x16_3 : Int), v14 = .bool x14_3 ∧ v15 = .int .i64 x15_3 ∧ v16 = .int .i64 x16_3 ∧ Aside0 (backhaullaw22_ValueWhole.l0 kq l1 l2 t107 t110 t113 x14_3 x15_3 x16_3 = some true) ∧ Aside0 (kq ≤ kj28) ∧ Aside0 (Kd.R (Kd.int .i64) 3 w' w.heap.size (fun k_ => (w.heap.size ≤ k_)) v108 t107) ∧ Aside0 (Kd.V Kd.string 9 w' w.heap.size (fun k_ => (P0_4_ k_ ∨ w.heap.size ≤ k_) ∧ some k_ ≠ (v108 : Value).ownBlock ∧ k_ ≠ gb101) (.slice A0_4 l0_4.length c0_4) l0_4) ∧ Aside0 (w'.heap[gb101]? = some (.cells #[.int .i64 a0_0, .int .i64 a0_1, .int .i64 a0_2, .int .i64 a0_3, (.slice A0_4 l0_4.length c0_4)] 71 (0, 0))) ∧ Aside0 (Below w.heap.size w w'))
            case atStart => exact ⟨(true), (0), (0), (by first | rfl | (simp; done) | (simp [*]; done)), (by first | rfl | (simp; done) | (simp [*]; done)), (by first | rfl | (simp; done) | (simp [*]; done)), H', ⟨Nat.le_refl _⟩, ⟨by (with_reducible repeat (first | apply Kd.R_alloc | apply Kd.R_drewN | apply Kd.R_drew)); exact HO_7.out⟩, ⟨by (with_reducible repeat (first | apply Kd.V_alloc | apply Kd.V_drewN | apply Kd.V_drew)); exact HO_102004.out⟩, ⟨by exact BK101.out⟩, ⟨qB⟩⟩
            case round =>
              clear H'; try clear c1
              try clear c2
              try clear p2
              try clear c3
              try clear c4
              try clear c5
              try clear c6
              try clear c7
              try clear c8
              try clear c8b0
              try clear c8b1
              try clear c19
              try clear c21
              try clear c23
              try clear c26
              try clear c26b0
              try clear c26b1
              try clear c36
              try clear c36b0
              try clear c36b1
              try clear c37
              try clear c37b0
              try clear c37b1
              try clear c38
              try clear c38b0
              try clear c39
              try clear c39b0
              try clear c40
              try clear c40b0
              try clear c42
              try clear p2
              obtain ⟨x14_3, x15_3, x16_3, rfl, rfl, rfl, HA, HK3, HO_7, HO_102004, BK101, HB⟩ := hrel; cases gk with
              | zero => exact absurd HA.out (by simp [backhaullaw22_ValueWhole.l0])
              | succ k3 =>
                have H := HA.out; clear HA; simp only [backhaullaw22_ValueWhole.l0] at H; by_cases c43 : x16_3 < (l2.length : Int)
                · rw [if_pos c43] at H
                  have c43b0 : decide (x16_3 < (l2.length : Int)) = true := zFq c43; clear c43; by_cases c44 : 0 ≤ x16_3
                  · rw [if_pos c44] at H
                    have c44b0 : decide (0 ≤ x16_3) = true := zFq c44; clear c44; by_cases c45 : (rd l2 x16_3) < 0
                    · rw [if_pos c45] at H
                      have c45b0 : decide ((rd l2 x16_3) < 0) = true := zFq c45; clear c45; exact absurd H (by simp)
                    rw [if_neg c45] at H; have c45b0 : decide ((rd l2 x16_3) < 0) = false := zGq c45; clear c45; by_cases c46 : (rd l2 x16_3) ≥ (l1.length : Int)
                    · rw [if_pos c46] at H
                      have c46b0 : decide ((l1.length : Int) ≤ (rd l2 x16_3)) = true := zFq c46; clear c46; exact absurd H (by simp)
                    rw [if_neg c46] at H; have c46b0 : decide ((l1.length : Int) ≤ (rd l2 x16_3)) = false := zGq c46; clear c46; by_cases c47 : x14_3 = true
                    · subst c47
                      have H1 : (if 0 ≤ (rd l2 x16_3) then (if (rd l2 x16_3) < (l1.length : Int) then (if x16_3 < (t107.length : Int) then (backhaullaw22_ValueWhole.l0 k3 l1 l2 t107 t110 t113 ((rd l1 (rd l2 x16_3)) == 0) (wrap64 (x15_3 + (rd t107 x16_3))) (wrap64 (x16_3 + 1))) else (none)) else (none)) else (none)) = some true := by first | (rw [if_pos rfl] at H; exact H) | rfl
                      clear H; have H := H1; clear H1; by_cases c48 : 0 ≤ (rd l2 x16_3)
                      · rw [if_pos c48] at H
                        have c48b0 : decide (0 ≤ (rd l2 x16_3)) = true := zFq c48; clear c48; by_cases c49 : (rd l2 x16_3) < (l1.length : Int)
                        · rw [if_pos c49] at H
                          have c49b0 : decide ((rd l2 x16_3) < (l1.length : Int)) = true := zFq c49; clear c49; by_cases c50 : x16_3 < (t107.length : Int)
                          · rw [if_pos c50] at H
                            have c50b0 : decide (x16_3 < (t107.length : Int)) = true := zFq c50; clear c50; have H' := zA H; clear H; have p117 : 0 ≤ (x16_3 : Int) := of_decide_eq_true qA; have q117 : x16_3 < (l2.length : Int) := of_decide_eq_true qA; obtain ⟨ad117, e117, hx117_0⟩ := Kd.at_int HR2.out x16_3 p117 q117; cases e117
                            replace hx117_0 := (HB.out.cell (zCq w _ hx117_0)).trans hx117_0; replace p117 := eq_true p117; replace q117 := eq_true q117; have p118 : 0 ≤ (x16_3 : Int) := of_decide_eq_true qA; have q118 : x16_3 < (l2.length : Int) := of_decide_eq_true qA; obtain ⟨ad118, e118, hx118_0⟩ := Kd.at_int HR2.out x16_3 p118 q118; obtain rfl : ad117 = ad118 := (by injection e118)
                            replace hx118_0 := (HB.out.cell (zCq w _ hx118_0)).trans hx118_0; replace p118 := eq_true p118; replace q118 := eq_true q118; have p119 : 0 ≤ (x16_3 : Int) := of_decide_eq_true qA; have q119 : x16_3 < (l2.length : Int) := of_decide_eq_true qA; obtain ⟨ad119, e119, hx119_0⟩ := Kd.at_int HR2.out x16_3 p119 q119; obtain rfl : ad117 = ad119 := (by injection e119)
                            replace hx119_0 := (HB.out.cell (zCq w _ hx119_0)).trans hx119_0; replace p119 := eq_true p119; replace q119 := eq_true q119; have p120 : 0 ≤ ((rd l2 x16_3) : Int) := of_decide_eq_true qA; have q120 : (rd l2 x16_3) < (l1.length : Int) := of_decide_eq_true qA; obtain ⟨ad120, e120, hx120_0⟩ := Kd.at_int HR1.out (rd l2 x16_3) p120 q120; cases e120
                            replace hx120_0 := (HB.out.cell (zCq w _ hx120_0)).trans hx120_0; replace p120 := eq_true p120; replace q120 := eq_true q120; obtain ⟨Ao51, co51, eo51⟩ := Kd.R_slice HO_7.out; subst eo51; have p121 : 0 ≤ (x16_3 : Int) := of_decide_eq_true qA; have q121 : x16_3 < (t107.length : Int) := of_decide_eq_true qA; obtain ⟨ad121, e121, hx121_0⟩ := Kd.at_int (Kd.R_reads' HO_7.out).2.2 x16_3 p121 q121; cases e121
                            replace p121 := eq_true p121; replace q121 := eq_true q121; go_wp2; go_roundg k3
                            case measure => have := HJ3.out; have := HJ28.out; have := HK3.out; omega
                            case rel => exact ⟨(((rd l1 (rd l2 x16_3)) == 0)), (wrap64 (x15_3 + (rd t107 x16_3))), (wrap64 (x16_3 + 1)), (by first | rfl | (simp; done) | (simp [*]; done)), (by first | rfl | (simp; done) | (simp [*]; done)), (by first | rfl | (simp; done) | (simp [*]; done)), H', ⟨by have := HJ3.out; have := HJ28.out; have := HK3.out; omega⟩, ⟨by (with_reducible repeat (first | apply Kd.R_alloc | apply Kd.R_drewN | apply Kd.R_drew)); exact HO_7.out⟩, ⟨by (with_reducible repeat (first | apply Kd.V_alloc | apply Kd.V_drewN | apply Kd.V_drew)); exact HO_102004.out⟩, ⟨by exact BK101.out⟩, ⟨qB⟩⟩
                          rw [if_neg c50] at H; exact absurd H (by simp)
                        rw [if_neg c49] at H; exact absurd H (by simp)
                      rw [if_neg c48] at H; exact absurd H (by simp)
                    replace c47 := Bool.eq_false_iff.mpr c47; subst c47; have H1 : (if x16_3 < (t107.length : Int) then (backhaullaw22_ValueWhole.l0 k3 l1 l2 t107 t110 t113 false (wrap64 (x15_3 + (rd t107 x16_3))) (wrap64 (x16_3 + 1))) else (none)) = some true := by first | (rw [if_neg (show ¬ (false = true) by decide)] at H; exact H) | rfl
                    clear H; have H := H1; clear H1; by_cases c52 : x16_3 < (t107.length : Int)
                    · rw [if_pos c52] at H
                      have c52b0 : decide (x16_3 < (t107.length : Int)) = true := zFq c52; clear c52; have H' := zA H; clear H; have p117 : 0 ≤ (x16_3 : Int) := of_decide_eq_true qA; have q117 : x16_3 < (l2.length : Int) := of_decide_eq_true qA; obtain ⟨ad117, e117, hx117_0⟩ := Kd.at_int HR2.out x16_3 p117 q117; cases e117
                      replace hx117_0 := (HB.out.cell (zCq w _ hx117_0)).trans hx117_0; replace p117 := eq_true p117; replace q117 := eq_true q117; have p118 : 0 ≤ (x16_3 : Int) := of_decide_eq_true qA; have q118 : x16_3 < (l2.length : Int) := of_decide_eq_true qA; obtain ⟨ad118, e118, hx118_0⟩ := Kd.at_int HR2.out x16_3 p118 q118; obtain rfl : ad117 = ad118 := (by injection e118)
                      replace hx118_0 := (HB.out.cell (zCq w _ hx118_0)).trans hx118_0; replace p118 := eq_true p118; replace q118 := eq_true q118; obtain ⟨Ao53, co53, eo53⟩ := Kd.R_slice HO_7.out; subst eo53; have p122 : 0 ≤ (x16_3 : Int) := of_decide_eq_true qA; have q122 : x16_3 < (t107.length : Int) := of_decide_eq_true qA; obtain ⟨ad122, e122, hx122_0⟩ := Kd.at_int (Kd.R_reads' HO_7.out).2.2 x16_3 p122 q122; cases e122
                      replace p122 := eq_true p122; replace q122 := eq_true q122; go_wp2; go_roundg k3
                      case measure => have := HJ3.out; have := HJ28.out; have := HK3.out; omega
                      case rel => exact ⟨(false), (wrap64 (x15_3 + (rd t107 x16_3))), (wrap64 (x16_3 + 1)), (by first | rfl | (simp; done) | (simp [*]; done)), (by first | rfl | (simp; done) | (simp [*]; done)), (by first | rfl | (simp; done) | (simp [*]; done)), H', ⟨by have := HJ3.out; have := HJ28.out; have := HK3.out; omega⟩, ⟨by (with_reducible repeat (first | apply Kd.R_alloc | apply Kd.R_drewN | apply Kd.R_drew)); exact HO_7.out⟩, ⟨by (with_reducible repeat (first | apply Kd.V_alloc | apply Kd.V_drewN | apply Kd.V_drew)); exact HO_102004.out⟩, ⟨by exact BK101.out⟩, ⟨qB⟩⟩
                    rw [if_neg c52] at H; exact absurd H (by simp)
                  rw [if_neg c44] at H; exact absurd H (by simp)
                rw [if_neg c43] at H; have c43b0 : decide (x16_3 < (l2.length : Int)) = false := zGq c43; clear c43; by_cases c54 : x15_3 = t110
                · rw [if_pos c54] at H
                  have c54b0 : (x15_3 == t110) = true := beq_iff_eq.mpr c54; have c54b1 : (x15_3 != t110) = false := bne_eq_false_iff_eq.mpr c54; clear c54; by_cases c55 : x14_3 = true
                  · subst c55
                    have H1 : (if t110 = t113 then ((backhaullaw22_awake.f).bind fun t123 => (if t123 = true then (some true) else (some false))) else (some false)) = some true := by first | (rw [if_pos rfl] at H; exact H) | rfl
                    clear H; have H := H1; clear H1; by_cases c56 : t110 = t113
                    · rw [if_pos c56] at H
                      have c56b0 : (t110 == t113) = true := beq_iff_eq.mpr c56; have c56b1 : (t110 != t113) = false := bne_eq_false_iff_eq.mpr c56; clear c56; replace H := Option.bind_eq_some_iff.mp H; obtain ⟨t123, A570, H⟩ := H; replace H : (if t123 = true then (some true) else (some false)) = some true := H; have A57 := zA A570; clear A570; by_cases c58 : t123 = true
                      · subst c58
                        have H1 : (some true) = some true := by first | (rw [if_pos rfl] at H; exact H) | rfl
                        clear H; have H := H1; clear H1; clear H; go_wp2_with (first | (go_at_call 73; (with_reducible refine (backhaullaw22_awake.calls  true _ A57.out).mono ?_); rintro e w59 ⟨rfl, hb⟩; have n0_ := zA (Kd.R_below (by (with_reducible repeat (first | apply Kd.R_alloc | apply Kd.R_drewN | apply Kd.R_drew)); exact HO_7.out) hb); have n1_ := zA (Kd.V_below (by (with_reducible repeat (first | apply Kd.V_alloc | apply Kd.V_drewN | apply Kd.V_drew)); exact HO_102004.out) hb); have n2_ := zA (qX BK101.out hb); have n3_ := zA (zV qB hb); clear HO_7 HO_102004 BK101 HB; have HO_7 := n0_; have HO_102004 := n1_; have BK101 := n2_; have HB := n3_; clear n0_ n1_ n2_ n3_; (try clear hb); (try clear hb2); (try clear hk); (try clear hi))); go_ret; exact ⟨qE, qB⟩
                      replace c58 := Bool.eq_false_iff.mpr c58; subst c58; have H1 : (some false) = some true := by first | (rw [if_neg (show ¬ (false = true) by decide)] at H; exact H) | rfl
                      clear H; have H := H1; clear H1; exact absurd H (by simp)
                    rw [if_neg c56] at H; have c56b0 : (t110 == t113) = false := beq_eq_false_iff_ne.mpr c56; have c56b1 : (t110 != t113) = true := bne_iff_ne.mpr c56; exact absurd H (by simp)
                  replace c55 := Bool.eq_false_iff.mpr c55; subst c55; have H1 : ((backhaullaw22_awake.f).bind fun t124 => (if t124 = true then (some true) else (some false))) = some true := by first | (rw [if_neg (show ¬ (false = true) by decide)] at H; exact H) | rfl
                  clear H; have H := H1; clear H1; replace H := Option.bind_eq_some_iff.mp H; obtain ⟨t124, A600, H⟩ := H; replace H : (if t124 = true then (some true) else (some false)) = some true := H; have A60 := zA A600; clear A600; by_cases c61 : t124 = true
                  · subst c61
                    have H1 : (some true) = some true := by first | (rw [if_pos rfl] at H; exact H) | rfl
                    clear H; have H := H1; clear H1; clear H; go_wp2_with (first | (go_at_call 73; (with_reducible refine (backhaullaw22_awake.calls  true _ A60.out).mono ?_); rintro e w62 ⟨rfl, hb⟩; have n0_ := zA (Kd.R_below (by (with_reducible repeat (first | apply Kd.R_alloc | apply Kd.R_drewN | apply Kd.R_drew)); exact HO_7.out) hb); have n1_ := zA (Kd.V_below (by (with_reducible repeat (first | apply Kd.V_alloc | apply Kd.V_drewN | apply Kd.V_drew)); exact HO_102004.out) hb); have n2_ := zA (qX BK101.out hb); have n3_ := zA (zV qB hb); clear HO_7 HO_102004 BK101 HB; have HO_7 := n0_; have HO_102004 := n1_; have BK101 := n2_; have HB := n3_; clear n0_ n1_ n2_ n3_; (try clear hb); (try clear hb2); (try clear hk); (try clear hi))); go_ret; exact ⟨qE, qB⟩
                  replace c61 := Bool.eq_false_iff.mpr c61; subst c61; have H1 : (some false) = some true := by first | (rw [if_neg (show ¬ (false = true) by decide)] at H; exact H) | rfl
                  clear H; have H := H1; clear H1; exact absurd H (by simp)
                rw [if_neg c54] at H; have c54b0 : (x15_3 == t110) = false := beq_eq_false_iff_ne.mpr c54; have c54b1 : (x15_3 != t110) = true := bne_iff_ne.mpr c54; exact absurd H (by simp)
      rw [if_neg c26] at H; have c26b0 : (t111 == 0) = false := beq_eq_false_iff_ne.mpr c26; have c26b1 : (t111 != 0) = true := bne_iff_ne.mpr c26; by_cases c63 : (t107.length : Int) = 0
      · rw [if_pos c63] at H
        have c63b0 : ((t107.length : Int) == 0) = true := beq_iff_eq.mpr c63; have c63b1 : ((t107.length : Int) != 0) = false := bne_eq_false_iff_eq.mpr c63; clear c63; by_cases c64 : t110 = 0
        · rw [if_pos c64] at H
          have c64b0 : (t110 == 0) = true := beq_iff_eq.mpr c64; have c64b1 : (t110 != 0) = false := bne_eq_false_iff_eq.mpr c64; clear c64; replace H := Option.bind_eq_some_iff.mp H; obtain ⟨t112, A650, H⟩ := H; replace H : (if t112 = true then (some true) else (some false)) = some true := H; have A65 := zA A650; clear A650; by_cases c66 : t112 = true
          · subst c66
            have H1 : (some true) = some true := by first | (rw [if_pos rfl] at H; exact H) | rfl
            clear H; have H := H1; clear H1; clear H; obtain ⟨_, _, _, _, _, _, _, _, _, _⟩ := qc5f BK101.out; go_wp2_with (first | ((with_reducible refine zJq (f := 78) rfl ?_); refine goesL_ (some 36) rfl rfl Try.func78 (by kernel_rfl) rfl #[.agg #[.int .i64 a0_0, .int .i64 a0_1, .int .i64 a0_2, .int .i64 a0_3, .slice A0_4 l0_4.length c0_4], .slice A1 l1.length c1, .slice A2 l2.length c2] rfl (by (try simp only [zR, zS, zT]); first | done | rfl | (simp only [zP, zQ]; rfl)) ?_; (with_reducible refine (value_All.calls kj3 a0_0 a0_1 a0_2 a0_3 _ _ l0_4 _ _ l1 _ _ l2 t107 t110 t111 _ ?side1 ?side2 ?side3 ?side4 ?side5 ?side6 A25.out).mono ?_); (case side1 => repeat (first | exact (Kd.V_reads' HO_102004.out).2.2 | (with_reducible refine Kd.C_alloc ?_ _) | (with_reducible refine Kd.C_drewN ?_ _) | (with_reducible refine Kd.C_drew ?_))); (case side2 => exact (Kd.V_reads' HO_102004.out).2.1); (case side3 => exact qC (Kd.C_below HR1.out HB.out)); (case side4 => exact HC1.out); (case side5 => exact qC (Kd.C_below HR2.out HB.out)); (case side6 => exact HC2.out); rintro e w68 ⟨v108, rfl, ho0, hb⟩; refine ⟨_, rfl, ?_⟩; have n0_ := zA (Kd.V_elder' (by (with_reducible repeat (first | apply Kd.V_alloc | apply Kd.V_drewN | apply Kd.V_drew)); exact HO_102004.out) (Kd.R_base ho0) hb); have n1_ := zA (Kd.R_lower (Kd.R_newM (M := fun k_ => (w.heap.size ≤ k_)) ho0 (zW qB) (fun k_ h_ => h_)) (zW qB)); have n2_ := zA (qX BK101.out hb); have n3_ := zA (zV qB hb); clear HO_102004 BK101 HB; have HO_102004 := n0_; have HO109 := n1_; have BK101 := n2_; have HB := n3_; clear n0_ n1_ n2_ n3_; (try clear hb); (try clear hb2); (try clear hk); (try clear hi); (try clear ho0); obtain ⟨Ao69, co69, eo69⟩ := Kd.R_slice HO109.out; subst eo69) | (go_at_call 73; (with_reducible refine (backhaullaw22_awake.calls  true _ A65.out).mono ?_); rintro e w70 ⟨rfl, hb⟩; have n0_ := zA (Kd.V_below (by (with_reducible repeat (first | apply Kd.V_alloc | apply Kd.V_drewN | apply Kd.V_drew)); exact HO_102004.out) hb); have n1_ := zA (Kd.R_below (by (with_reducible repeat (first | apply Kd.R_alloc | apply Kd.R_drewN | apply Kd.R_drew)); exact HO109.out) hb); have n2_ := zA (qX BK101.out hb); have n3_ := zA (zV qB hb); clear HO_102004 HO109 BK101 HB; have HO_102004 := n0_; have HO109 := n1_; have BK101 := n2_; have HB := n3_; clear n0_ n1_ n2_ n3_; (try clear hb); (try clear hb2); (try clear hk); (try clear hi))); go_ret; exact ⟨qE, qB⟩
          replace c66 := Bool.eq_false_iff.mpr c66; subst c66; have H1 : (some false) = some true := by first | (rw [if_neg (show ¬ (false = true) by decide)] at H; exact H) | rfl
          clear H; have H := H1; clear H1; exact absurd H (by simp)
        rw [if_neg c64] at H; have c64b0 : (t110 == 0) = false := beq_eq_false_iff_ne.mpr c64; have c64b1 : (t110 != 0) = true := bne_iff_ne.mpr c64; exact absurd H (by simp)
      rw [if_neg c63] at H; have c63b0 : ((t107.length : Int) == 0) = false := beq_eq_false_iff_ne.mpr c63; have c63b1 : ((t107.length : Int) != 0) = true := bne_iff_ne.mpr c63; have c63b2 : ¬ (t107 = []) := fun h_ => c63 (by rw [h_]; rfl)
      exact absurd H (by simp)
def backhaullaw22_ValueWhole.Pure : Prop := ∀ (a0_0 : Int) (a0_1 : Int) (a0_2 : Int) (a0_3 : Int) (l0_4 : List ByteArray) (l1 : List Int) (l2 : List Int), (Lit.int .i64 a0_0).wf = true → (Lit.int .i64 a0_1).wf = true → (Lit.int .i64 a0_2).wf = true → (Lit.int .i64 a0_3).wf = true → (l0_4.length ≤ maxLen ∧ ∀ x ∈ l0_4, x.size ≤ maxLen) → (l1.length ≤ maxLen ∧ ∀ x ∈ l1, (Lit.int .i64 x).wf = true) → (l2.length ≤ maxLen ∧ ∀ x ∈ l2, (Lit.int .i64 x).wf = true) → ∃ k, backhaullaw22_ValueWhole.f k a0_0 a0_1 a0_2 a0_3 l0_4 l1 l2 = some true
end Go.Proofs.Ytefhljhpcpajgaa.F
set_option linter.unusedVariables false
namespace Go.Proofs.Ytefhljhpcpajgaa.Q
open Go.RowKit
def sumI (l : List Int) : Int := l.foldr (· + ·) 0
theorem sumI_cons (a : Int) (l : List Int) : sumI (a :: l) = a + sumI l := rfl
theorem sumI_append (a b : List Int) : sumI (a ++ b) = sumI a + sumI b := by
  induction a with
  | nil => simp [sumI]
  | cons x a ih => rw [List.cons_append, sumI_cons, sumI_cons, ih]; omega
theorem sumI_mul (l : List Int) (c : Int) : sumI (l.map (fun x => c * x)) = c * sumI l := by
  induction l with
  | nil => simp [sumI]
  | cons x l ih => rw [List.map_cons, sumI_cons, sumI_cons, ih, Int.mul_add]
theorem sumI_add {α : Type} (l : List α) (f g : α → Int) : sumI (l.map (fun x => f x + g x)) = sumI (l.map f) + sumI (l.map g) := by
  induction l with
  | nil => simp [sumI]
  | cons x l ih => simp only [List.map_cons, sumI_cons, ih]; omega
theorem sumI_nonneg {l : List Int} (h : ∀ x ∈ l, 0 ≤ x) : 0 ≤ sumI l := by
  induction l with
  | nil => simp [sumI]
  | cons x l ih =>
    have := h x List.mem_cons_self
    have := ih (fun y hy => h y (List.mem_cons_of_mem _ hy))
    rw [sumI_cons]; omega
theorem sumI_mem_le {l : List Int} (h : ∀ x ∈ l, 0 ≤ x) {a : Int} (ha : a ∈ l) : a ≤ sumI l := by
  induction l with
  | nil => cases ha
  | cons x l ih =>
    have h0 := h x List.mem_cons_self
    have h1 := sumI_nonneg (fun y hy => h y (List.mem_cons_of_mem _ hy))
    rw [sumI_cons]
    rcases List.mem_cons.1 ha with rfl | ha
    · omega
    have := ih (fun y hy => h y (List.mem_cons_of_mem _ hy)) ha; omega
theorem countP_sum {α : Type} (p : α → Bool) (l : List α) : ((l.countP p : Nat) : Int) = sumI (l.map (fun x => if p x = true then 1 else 0)) := by
  induction l with
  | nil => simp [sumI]
  | cons x l ih =>
    rw [List.map_cons, sumI_cons, List.countP_cons, ← ih]
    split <;> omega
def prt (t s w : Int) : Int := t * w / s
def rst (t s w : Int) : Int := t * w % s
def leftI (t s : Int) (l : List Int) : Int := t - sumI (l.map (prt t s))
theorem left_mul {t s : Int} {l : List Int} (hs : sumI l = s) : leftI t s l * s = sumI (l.map (rst t s)) := by
  have e : sumI (l.map (fun w => t * w)) = sumI (l.map (fun w => s * prt t s w)) + sumI (l.map (rst t s)) := by
    rw [← sumI_add]
    congr 1
    refine List.map_congr_left fun w _ => ?_
    unfold prt rst
    rw [Int.add_comm]
    exact (Int.emod_add_mul_ediv (t * w) s).symm
  have e2 : sumI (l.map (fun w => s * prt t s w)) = s * sumI (l.map (prt t s)) := by
    rw [← sumI_mul, List.map_map]; rfl
  rw [sumI_mul, hs] at e
  unfold leftI
  rw [Int.sub_mul, e, e2, Int.mul_comm s]
  omega
theorem sum_rests {t s : Int} (hs : 0 < s) (l : List Int) : 0 ≤ sumI (l.map (rst t s)) ∧ sumI (l.map (rst t s)) ≤ ((l.countP (fun w => decide (0 < rst t s w)) : Nat) : Int) * (s - 1) := by
  induction l with
  | nil => simp [sumI]
  | cons w l ih =>
    have h0 : 0 ≤ rst t s w := Int.emod_nonneg _ (by omega)
    have h1 : rst t s w < s := Int.emod_lt_of_pos _ hs
    rw [List.map_cons, sumI_cons, List.countP_cons]
    refine ⟨by omega, ?_⟩
    by_cases h : 0 < rst t s w
    · rw [if_pos (decide_eq_true h), Int.natCast_add, Int.add_mul]
      omega
    rw [if_neg (by simpa using h)]
    simp only [Int.natCast_add, Int.natCast_zero, Int.add_zero]
    omega
theorem left_bound {t s : Int} {l : List Int} (hs : sumI l = s) (h0 : 0 < s) : 0 ≤ leftI t s l ∧ leftI t s l ≤ ((l.countP (fun w => decide (0 < rst t s w)) : Nat) : Int) ∧ (leftI t s l = 0 ∨ leftI t s l < ((l.countP (fun w => decide (0 < rst t s w)) : Nat) : Int)) := by
  have e := left_mul (t := t) hs
  obtain ⟨h1, h2⟩ := sum_rests (t := t) h0 l
  rw [← e] at h1 h2
  have p0 : 0 ≤ leftI t s l := Int.nonneg_of_mul_nonneg_left h1 h0
  have hC0 : (0 : Int) ≤ ((l.countP (fun w => decide (0 < rst t s w)) : Nat) : Int) := Int.natCast_nonneg _
  generalize hL : leftI t s l = L at *
  generalize ((l.countP (fun w => decide (0 < rst t s w)) : Nat) : Int) = C at *
  have p1 : L * s ≤ C * s - C := by rw [Int.mul_sub, Int.mul_one] at h2; exact h2
  have p2 : L = 0 ∨ L < C := by
    apply Classical.byContradiction
    intro hn
    have h3 : 0 < L ∧ C ≤ L := by omega
    have h4 : C * s ≤ L * s := Int.mul_le_mul_of_nonneg_right h3.2 (by omega)
    have h5 : 0 < L * s := Int.mul_pos h3.1 h0
    by_cases hC : 0 < C
    · omega
    have : C * s ≤ 0 := by
      have := Int.mul_le_mul_of_nonneg_right (show C ≤ 0 by omega) (show 0 ≤ s by omega)
      rwa [Int.zero_mul] at this
    have : C * (s - 1) ≤ 0 := by
      have := Int.mul_le_mul_of_nonneg_right (show C ≤ 0 by omega) (show 0 ≤ s - 1 by omega)
      rwa [Int.zero_mul] at this
    omega
  refine ⟨p0, ?_, p2⟩
  rcases p2 with h | h
  · omega
  omega
def wt (l : List Int) (i : Nat) : Int := l.getD i 0
def outAt (t s : Int) (l : List Int) (i : Nat) : Int := prt t s (wt l i) + if (rank (fun j => rst t s (wt l j)) l.length i : Int) < leftI t s l then 1 else 0
def outL (t s : Int) (l : List Int) : List Int := (List.range l.length).map (outAt t s l)
theorem range_map {α : Type} [Inhabited α] (l : List α) (d : α) : (List.range l.length).map (fun i => l.getD i d) = l := by
  apply List.ext_getElem
  · simp
  intro i h1 h2
  simp [List.getD_eq_getElem?_getD, h2]
theorem out_sum {t s : Int} {l : List Int} (hs : sumI l = s) (h0 : 0 < s) : sumI (outL t s l) = t := by
  obtain ⟨b0, b1, _⟩ := left_bound (t := t) hs h0
  have hl : l.countP (fun w => decide (0 < rst t s w)) ≤ l.length := List.countP_le_length
  obtain ⟨L, hL⟩ := Int.eq_ofNat_of_zero_le b0
  have e1 : outL t s l = (List.range l.length).map (fun i => prt t s (wt l i) + if decide (rank (fun j => rst t s (wt l j)) l.length i < L) = true then 1 else 0) := by
    unfold outL outAt
    refine List.map_congr_left fun i _ => ?_
    rw [hL]
    congr 1
    by_cases h : rank (fun j => rst t s (wt l j)) l.length i < L
    · rw [if_pos (by omega), if_pos (by simpa using h)]
    rw [if_neg (by omega), if_neg (by simpa using h)]
  have e2 : sumI ((List.range l.length).map (fun i => prt t s (wt l i))) = sumI (l.map (prt t s)) := by
    have h : (List.range l.length).map (fun i => prt t s (wt l i)) = l.map (prt t s) := by
      have := congrArg (List.map (prt t s)) (range_map l 0)
      rw [List.map_map] at this
      exact this
    rw [h]
  rw [e1, sumI_add, e2, ← countP_sum, rank_count _ _ L (by omega)]
  unfold leftI at hL
  omega
theorem out_bounds {t s : Int} {l : List Int} {i : Nat} : prt t s (wt l i) ≤ outAt t s l i ∧ outAt t s l i ≤ prt t s (wt l i) + 1 := by
  unfold outAt; split <;> omega
end Go.Proofs.Ytefhljhpcpajgaa.Q
set_option linter.unusedVariables false
namespace Go.Proofs.Ytefhljhpcpajgaa.Q
open Go.RowKit Go.Proofs.Ytefhljhpcpajgaa.F Go.Proofs.YtefhljhpcpajgaaW.PrintWords Go.Proofs.YtefhljhpcpajgaaW.PrintLast Go.Proofs.YtefhljhpcpajgaaW.PrintMore
def amt (n : Int) : Prop := -1000000000000 ≤ n ∧ n ≤ 1000000000000
instance (n : Int) : Decidable (amt n) := by unfold amt; infer_instance
def toldS (n : Int) : Int × Int := if amt n then (n, 0) else (0, 8)
def sumS : Int → List Int → Int × Int
  | n, [] => (n, 0)
  | n, x :: xs => if amt x ∧ amt (n + x) then sumS (n + x) xs else (0, 8)
def subS (a b : Int) : Int × Int := if amt a ∧ amt b ∧ amt (a - b) then (a - b, 0) else (0, 8)
theorem in_f (n : Int) : cents_In.f n = some (decide (amt n)) := by
  unfold cents_In.f amt
  by_cases h : n ≥ -1000000000000
  · rw [if_pos h]; congr 1; exact decide_eq_decide.2 ⟨fun a => ⟨h, a⟩, fun a => a.2⟩
  rw [if_neg h]; congr 1; exact (decide_eq_false (fun a => h a.1)).symm
theorem told_f (n : Int) : cents_told.f n = some (toldS n) := by
  unfold cents_told.f toldS
  rw [in_f]
  by_cases h : amt n
  · simp [h]
  simp [h]
theorem cents_Add_l0 {l : List Int} (hl : l.length < 9223372036854775807) (d : Nat) : ∀ (i : Nat) (n : Int), l.length - i = d → i ≤ l.length → amt n →
    Ev (fun k => cents_Add.l0 k n l (l.length : Int) (i : Int)) (sumS n (l.drop i)) := by
  induction d with
  | zero =>
    intro i n hd hi hn
    refine Ev.step (fun k => by simp only [cents_Add.l0]; rfl) ?_
    refine Ev.neg (by omega) (Ev.ok ?_)
    rw [List.drop_eq_nil_of_le (by omega)]; rfl
  | succ d ih =>
    intro i n hd hi hn
    have h : i < l.length := by omega
    refine Ev.step (fun k => by simp only [cents_Add.l0]; rfl) ?_
    refine Ev.pos (by omega) (Ev.pos (by omega) (Ev.pos (by omega) ?_))
    rw [drop_cons h, rd_nat h]
    refine Q.Ev.bindc (in_f _) ?_
    by_cases h1 : amt l[i]
    · refine Ev.pos (decide_eq_true h1) ?_
      have hw : wrap64 (n + l[i]) = n + l[i] := by unfold amt at hn h1; exact wrap_eq (by omega) (by omega)
      rw [hw]
      refine Q.Ev.bindc (in_f _) ?_
      by_cases h2 : amt (n + l[i])
      · refine Ev.pos (decide_eq_true h2) ?_
        simp only [sumS]
        rw [if_pos ⟨h1, h2⟩, wrap_eq (by omega) (by omega)]
        exact ih (i + 1) _ (by omega) (by omega) h2
      refine Ev.neg (by simp [h2]) (Ev.ok ?_)
      simp only [sumS]; rw [if_neg (fun a => h2 a.2)]
    refine Ev.neg (by simp [h1]) (Ev.ok ?_)
    simp only [sumS]; rw [if_neg (fun a => h1 a.1)]
theorem amt0 : amt 0 := by unfold amt; omega
theorem cents_Add_f {l : List Int} (hl : l.length < 9223372036854775807) : Ev (fun k => cents_Add.f k l) (sumS 0 l) := by
  unfold cents_Add.f
  exact cents_Add_l0 hl l.length 0 0 (by omega) (by omega) amt0
theorem sub_f (a b : Int) : cents_Sub.f a b = some (subS a b) := by
  unfold cents_Sub.f subS
  simp only [in_f, Option.bind_some, told_f]
  by_cases h1 : amt a
  · by_cases h2 : amt b
    · rw [wrap_eq (by unfold amt at h1 h2; omega) (by unfold amt at h1 h2; omega)]
      simp [h1, h2, toldS]
      try (split <;> rfl)
    simp [h1, h2]
  simp [h1]
theorem and32 {x : Int} (h0 : 0 ≤ x) (h1 : x < 18446744073709551616) : Go.bits .and .u64 x 4294967295 = x % 4294967296 :=
  Go.bits_mask .u64 64 (by decide) (fun n h0 h1 => u64_eq h0 h1) 32 (by decide) x h0 h1
theorem mul64_f {a b : Int} (ha0 : 0 ≤ a) (ha : a < 18446744073709551616) (hb0 : 0 ≤ b) (hb : b < 18446744073709551616) :
    bits_Mul64.f a b = some (a * b / 18446744073709551616, a * b % 18446744073709551616) := by
  unfold bits_Mul64.f
  rw [and32 ha0 ha, and32 hb0 hb]
  obtain ⟨ah, hah⟩ : ∃ x, x = a / 4294967296 := ⟨_, rfl⟩
  obtain ⟨al, hal⟩ : ∃ x, x = a % 4294967296 := ⟨_, rfl⟩
  obtain ⟨bh, hbh⟩ : ∃ x, x = b / 4294967296 := ⟨_, rfl⟩
  obtain ⟨bl, hbl⟩ : ∃ x, x = b % 4294967296 := ⟨_, rfl⟩
  rw [← hah, ← hal, ← hbh, ← hbl]
  have ea : a = ah * 4294967296 + al := by omega
  have eb : b = bh * 4294967296 + bl := by omega
  have bnd : ∀ x y : Int, 0 ≤ x → x ≤ 4294967295 → 0 ≤ y → y ≤ 4294967295 → 0 ≤ x * y ∧ x * y ≤ 18446744065119617025 := by
    intro x y hx0 hx hy0 hy
    refine ⟨Int.mul_nonneg hx0 hy0, ?_⟩
    have := Int.mul_le_mul hx hy hy0 (by omega)
    omega
  obtain ⟨p, hp⟩ : ∃ x, x = ah * bh := ⟨_, rfl⟩
  obtain ⟨q, hq⟩ : ∃ x, x = ah * bl := ⟨_, rfl⟩
  obtain ⟨r, hr⟩ : ∃ x, x = al * bh := ⟨_, rfl⟩
  obtain ⟨s, hs⟩ : ∃ x, x = al * bl := ⟨_, rfl⟩
  have bp := bnd ah bh (by omega) (by omega) (by omega) (by omega)
  have bq := bnd ah bl (by omega) (by omega) (by omega) (by omega)
  have br := bnd al bh (by omega) (by omega) (by omega) (by omega)
  have bs := bnd al bl (by omega) (by omega) (by omega) (by omega)
  have e : a * b = p * 18446744073709551616 + (q + r) * 4294967296 + s := by
    rw [ea, eb, hp, hq, hr, hs]
    simp only [Int.add_mul, Int.mul_add]
    rw [show ah * 4294967296 * (bh * 4294967296) = ah * bh * 18446744073709551616 by rw [Int.mul_assoc, Int.mul_left_comm 4294967296 bh, Int.mul_assoc ah bh]; rfl, show ah * 4294967296 * bl = ah * bl * 4294967296 by rw [Int.mul_right_comm], show al * (bh * 4294967296) = al * bh * 4294967296 by rw [Int.mul_assoc]]
    omega
  rw [← hp] at bp
  rw [← hq] at bq
  rw [← hr] at br
  rw [← hs] at bs
  rw [← hp, ← hq, ← hr, ← hs, e]
  clear e hp hq hr hs ea eb hah hal hbh hbl
  rw [u64_eq (x := p) (by omega) (by omega), u64_eq (x := q) (by omega) (by omega), u64_eq (x := r) (by omega) (by omega), u64_eq (x := s) (by omega) (by omega)]
  rw [u64_eq (x := q + s / 4294967296) (by omega) (by omega)]
  rw [u64_eq (x := p + (q + s / 4294967296) / 4294967296) (by omega) (by omega)]
  rw [and32 (x := q + s / 4294967296) (by omega) (by omega)]
  rw [u64_eq (x := (q + s / 4294967296) % 4294967296 + r) (by omega) (by omega)]
  rw [u64_eq (x := p + (q + s / 4294967296) / 4294967296 + ((q + s / 4294967296) % 4294967296 + r) / 4294967296) (by omega) (by omega)]
  have hw : IntKind.u64.wrap (p * 18446744073709551616 + (q + r) * 4294967296 + s) = (p * 18446744073709551616 + (q + r) * 4294967296 + s) % 18446744073709551616 := by simp [IntKind.wrap, IntKind.signed, IntKind.bits]
  rw [hw]
  congr 2
  omega
theorem product_f {a b : Int} (ha0 : 0 ≤ a) (ha : a < 18446744073709551616) (hb0 : 0 ≤ b) (hb : b < 18446744073709551616) :
    cents_product.f a b = some (a * b / 18446744073709551616, a * b % 18446744073709551616) := by
  unfold cents_product.f
  rw [mul64_f ha0 ha hb0 hb]
  rfl
theorem above_f {x y : Int} (hx0 : 0 ≤ x) (hy0 : 0 ≤ y) : cents_wide_above.f (x / 18446744073709551616) (x % 18446744073709551616) (y / 18446744073709551616) (y % 18446744073709551616) = some (decide (x > y)) := by
  unfold cents_wide_above.f
  split
  · exact congrArg some (decide_eq_true (by omega)).symm
  split
  · exact congrArg some (decide_eq_decide.2 (by omega))
  exact congrArg some (decide_eq_false (by omega)).symm
end Go.Proofs.Ytefhljhpcpajgaa.Q
set_option linter.unusedVariables false
set_option maxRecDepth 4000
namespace Go.Proofs.Ytefhljhpcpajgaa.Q
open Go.RowKit Go.Proofs.Ytefhljhpcpajgaa.F Go.Proofs.YtefhljhpcpajgaaW.PrintWords Go.Proofs.YtefhljhpcpajgaaW.PrintLast Go.Proofs.YtefhljhpcpajgaaW.PrintMore
abbrev tab8 : ByteArray := (⟨#[0, 1, 2, 2, 3, 3, 3, 3, 4, 4, 4, 4, 4, 4, 4, 4, 5, 5, 5, 5, 5, 5, 5, 5, 5, 5, 5, 5, 5, 5, 5, 5, 6, 6, 6, 6, 6, 6, 6, 6, 6, 6, 6, 6, 6, 6, 6, 6, 6, 6, 6, 6, 6, 6, 6, 6, 6, 6, 6, 6, 6, 6, 6, 6, 7, 7, 7, 7, 7, 7, 7, 7, 7, 7, 7, 7, 7, 7, 7, 7, 7, 7, 7, 7, 7, 7, 7, 7, 7, 7, 7, 7, 7, 7, 7, 7, 7, 7, 7, 7, 7, 7, 7, 7, 7, 7, 7, 7, 7, 7, 7, 7, 7, 7, 7, 7, 7, 7, 7, 7, 7, 7, 7, 7, 7, 7, 7, 7, 8, 8, 8, 8, 8, 8, 8, 8, 8, 8, 8, 8, 8, 8, 8, 8, 8, 8, 8, 8, 8, 8, 8, 8, 8, 8, 8, 8, 8, 8, 8, 8, 8, 8, 8, 8, 8, 8, 8, 8, 8, 8, 8, 8, 8, 8, 8, 8, 8, 8, 8, 8, 8, 8, 8, 8, 8, 8, 8, 8, 8, 8, 8, 8, 8, 8, 8, 8, 8, 8, 8, 8, 8, 8, 8, 8, 8, 8, 8, 8, 8, 8, 8, 8, 8, 8, 8, 8, 8, 8, 8, 8, 8, 8, 8, 8, 8, 8, 8, 8, 8, 8, 8, 8, 8, 8, 8, 8, 8, 8, 8, 8, 8, 8, 8, 8, 8, 8, 8, 8, 8, 8, 8, 8, 8, 8, 8, 8]⟩ : ByteArray)
def len8ok (x : Nat) : Bool := let t := (bt tab8 (x : Int)).toNat; decide (bt tab8 (x : Int) = (t : Int)) && decide (t ≤ 8) && decide (x < 2 ^ t) && (x == 0 || (decide (1 ≤ t) && decide (2 ^ (t - 1) ≤ x)))
theorem len8_all : (List.range 256).all len8ok = true := by decide +kernel
theorem len8 {x : Int} (h0 : 0 ≤ x) (h1 : x < 256) : ∃ t : Nat, bt tab8 x = (t : Int) ∧ t ≤ 8 ∧ x < (2 : Int) ^ t ∧ (0 < x → 1 ≤ t ∧ (2 : Int) ^ (t - 1) ≤ x) := by
  obtain ⟨n, rfl⟩ := Int.eq_ofNat_of_zero_le h0
  have h := List.all_eq_true.1 len8_all n (List.mem_range.2 (by omega))
  unfold len8ok at h
  simp only [Bool.and_eq_true, decide_eq_true_eq, Bool.or_eq_true, beq_iff_eq] at h
  obtain ⟨⟨⟨ha, hb⟩, hc⟩, hd⟩ := h
  refine ⟨_, ha, hb, by exact_mod_cast hc, fun hp => ?_⟩
  rcases hd with hd | hd
  · omega
  exact ⟨hd.1, by exact_mod_cast hd.2⟩
theorem up_pow {x : Int} {m t : Nat} (hx : 0 ≤ x) (ht : 1 ≤ t) (h1 : (2 : Int) ^ (t - 1) ≤ x / 2 ^ m) (h2 : x / 2 ^ m < (2 : Int) ^ t) : (2 : Int) ^ (m + t - 1) ≤ x ∧ x < (2 : Int) ^ (m + t) := by
  have hp : (0 : Int) < 2 ^ m := Int.pow_pos (by decide)
  constructor
  · rw [show m + t - 1 = (t - 1) + m by omega, Int.pow_add]
    exact (Int.le_ediv_iff_mul_le hp).1 h1
  rw [Nat.add_comm, Int.pow_add]
  exact (Int.ediv_lt_iff_lt_mul hp).1 h2
theorem len64_j0 {x c : Int} (hx0 : 0 < x) (hx : x < 4294967296) (hc0 : 0 ≤ c) (hc : c ≤ 32) : ∃ n : Nat, Ev (fun k => bits_Len64.j0 k x c) (c + n) ∧ 1 ≤ n ∧ n ≤ 32 ∧ (2 : Int) ^ (n - 1) ≤ x ∧ x < (2 : Int) ^ n := by
  by_cases h1 : x ≥ 65536
  · by_cases h2 : x / 65536 ≥ 256
    · obtain ⟨t, e, ht, hlt, hpos⟩ := len8 (x := x / 65536 / 256 % 256) (by omega) (by omega)
      obtain ⟨h3, h4⟩ := hpos (by omega)
      have e2 : x / 65536 / 256 % 256 = x / 2 ^ 24 := by rw [show (2 : Int) ^ 24 = 16777216 by decide]; omega
      rw [e2] at hlt h4
      obtain ⟨h5, h6⟩ := up_pow (m := 24) (by omega) h3 h4 hlt
      refine ⟨24 + t, Ev.step (fun k => by simp only [bits_Len64.j0]; rfl) ?_, by omega, by omega, h5, h6⟩
      refine Ev.pos h1 (Ev.pos h2 (Ev.pos (by omega) (Ev.pos (by omega) (Ev.ok ?_))))
      rw [e, wrap_eq (x := c + 16) (by omega) (by omega), wrap_eq (x := (t : Int)) (by omega) (by omega), wrap_eq (x := c + 16 + 8) (by omega) (by omega), wrap_eq (by omega) (by omega)]
      omega
    obtain ⟨t, e, ht, hlt, hpos⟩ := len8 (x := x / 65536 % 256) (by omega) (by omega)
    obtain ⟨h3, h4⟩ := hpos (by omega)
    have e2 : x / 65536 % 256 = x / 2 ^ 16 := by rw [show (2 : Int) ^ 16 = 65536 by decide]; omega
    rw [e2] at hlt h4
    obtain ⟨h5, h6⟩ := up_pow (m := 16) (by omega) h3 h4 hlt
    refine ⟨16 + t, Ev.step (fun k => by simp only [bits_Len64.j0]; rfl) ?_, by omega, by omega, h5, h6⟩
    refine Ev.pos h1 (Ev.neg h2 (Ev.pos (by omega) (Ev.pos (by omega) (Ev.ok ?_))))
    rw [e, wrap_eq (x := c + 16) (by omega) (by omega), wrap_eq (x := (t : Int)) (by omega) (by omega), wrap_eq (by omega) (by omega)]
    omega
  by_cases h2 : x ≥ 256
  · obtain ⟨t, e, ht, hlt, hpos⟩ := len8 (x := x / 256 % 256) (by omega) (by omega)
    obtain ⟨h3, h4⟩ := hpos (by omega)
    have e2 : x / 256 % 256 = x / 2 ^ 8 := by rw [show (2 : Int) ^ 8 = 256 by decide]; omega
    rw [e2] at hlt h4
    obtain ⟨h5, h6⟩ := up_pow (m := 8) (by omega) h3 h4 hlt
    refine ⟨8 + t, Ev.step (fun k => by simp only [bits_Len64.j0]; rfl) ?_, by omega, by omega, h5, h6⟩
    refine Ev.neg h1 (Ev.pos h2 (Ev.pos (by omega) (Ev.pos (by omega) (Ev.ok ?_))))
    rw [e, wrap_eq (x := c + 8) (by omega) (by omega), wrap_eq (x := (t : Int)) (by omega) (by omega), wrap_eq (by omega) (by omega)]
    omega
  obtain ⟨t, e, ht, hlt, hpos⟩ := len8 (x := x % 256) (by omega) (by omega)
  obtain ⟨h3, h4⟩ := hpos (by omega)
  have e2 : x % 256 = x := by omega
  rw [e2] at hlt h4
  refine ⟨t, Ev.step (fun k => by simp only [bits_Len64.j0]; rfl) ?_, by omega, by omega, h4, hlt⟩
  refine Ev.neg h1 (Ev.neg h2 (Ev.pos (by omega) (Ev.pos (by omega) (Ev.ok ?_))))
  rw [e, wrap_eq (x := (t : Int)) (by omega) (by omega), wrap_eq (by omega) (by omega)]
theorem len64_f {x : Int} (hx0 : 0 < x) (hx : x < 18446744073709551616) : ∃ n : Nat, Ev (fun k => bits_Len64.f k x) (n : Int) ∧ 1 ≤ n ∧ n ≤ 64 ∧ (2 : Int) ^ (n - 1) ≤ x ∧ x < (2 : Int) ^ n := by
  by_cases h : x ≥ 4294967296
  · obtain ⟨n, h1, h2, h3, h4, h5⟩ := len64_j0 (x := x / 4294967296) (c := 32) (by omega) (by omega) (by omega) (by omega)
    have e2 : (4294967296 : Int) = 2 ^ 32 := by decide
    obtain ⟨h6, h7⟩ := up_pow (m := 32) (x := x) (by omega) h2 (by rw [← e2]; exact h4) (by rw [← e2]; exact h5)
    refine ⟨32 + n, ?_, by omega, by omega, h6, h7⟩
    unfold bits_Len64.f
    refine Ev.pos h ?_
    have := h1
    rwa [show (32 : Int) + n = ((32 + n : Nat) : Int) by omega] at this
  obtain ⟨n, h1, h2, h3, h4, h5⟩ := len64_j0 (x := x) (c := 0) (by omega) (by omega) (by omega) (by omega)
  refine ⟨n, ?_, by omega, by omega, h4, h5⟩
  unfold bits_Len64.f
  refine Ev.neg h ?_
  rwa [Int.zero_add] at h1
theorem u64_mod (x : Int) : IntKind.u64.wrap x = x % 18446744073709551616 := by simp [IntKind.wrap, IntKind.signed, IntKind.bits]
theorem digit {Y y1 y0 u d q r U Q : Int} (hY : Y = y1 * 4294967296 + y0) (h1 : 2147483648 ≤ y1) (h0 : 0 ≤ y0) (h0' : y0 < 4294967296) (hu0 : 0 ≤ u) (hu : u < Y) (hd0 : 0 ≤ d) (hd : d < 4294967296)
    (hU : U = u * 4294967296 + d) (hQ : Q = U / Y) (hqr : q * y1 + r = u) (hq0 : 0 ≤ q) (hq : q ≤ 4294967297) (hr0 : 0 ≤ r) (hr : r < 4294967296) (hge : Q ≤ q) :
    ((q ≥ 4294967296 ∨ q < 4294967296 ∧ 4294967296 * r + d < q * y0) ∧ Q ≤ q - 1 ∧ 1 ≤ q ∧ (r + y1 ≥ 4294967296 → q - 1 = Q)) ∨ (q < 4294967296 ∧ ¬ (4294967296 * r + d < q * y0) ∧ q = Q) := by
  have hYp : 0 < Y := by omega
  have eq : q * Y = (u - r) * 4294967296 + q * y0 := by
    rw [hY, Int.mul_add, ← Int.mul_assoc, show q * y1 = u - r by omega]
  have hlt : ∀ z : Int, Q < z ↔ U < z * Y := fun z => by rw [hQ]; exact Int.ediv_lt_iff_lt_mul hYp
  have hQ0 : 0 ≤ Q := by rw [hQ]; exact Int.ediv_nonneg (by omega) (by omega)
  have brk : Q ≤ q - 1 → r + y1 ≥ 4294967296 → q - 1 = Q := by
    intro h2 h3
    have h4 : ¬ (Q < q - 1) := by
      rw [hlt, Int.sub_mul, eq, hY, Int.one_mul]
      have : (q - 1) * y0 ≤ 4294967296 * y0 := Int.mul_le_mul_of_nonneg_right (by omega) h0
      rw [Int.sub_mul, Int.one_mul] at this
      omega
    omega
  by_cases h2 : q ≥ 4294967296
  · have h3 : Q < q := by
      have : Q < 4294967296 := by rw [hlt]; omega
      omega
    exact .inl ⟨.inl h2, by omega, by omega, brk (by omega)⟩
  by_cases h3 : 4294967296 * r + d < q * y0
  · have h4 : Q < q := by rw [hlt, eq]; omega
    exact .inl ⟨.inr ⟨by omega, h3⟩, by omega, by omega, brk (by omega)⟩
  have h4 : ¬ Q < q := by rw [hlt, eq]; omega
  exact .inr ⟨by omega, h3, by omega⟩
theorem rest_word {Y u d U Q : Int} (hY : 0 < Y) (hY' : Y < 18446744073709551616) (hU : U = u * 4294967296 + d) (hQ : Q = U / Y) : IntKind.u64.wrap (IntKind.u64.wrap (IntKind.u64.wrap (u * 4294967296) + d) - IntKind.u64.wrap (Q * Y)) = U % Y := by
  simp only [u64_mod]
  have h1 := Int.emod_nonneg U (show Y ≠ 0 by omega)
  have h2 := Int.emod_lt_of_pos U hY
  have h3 : U % Y = U - Q * Y := by rw [Int.emod_def, hQ, Int.mul_comm]
  rw [h3] at h1 h2 ⊢
  omega
structure Div1 (Y y1 y0 : Int) : Prop where
  eq : Y = y1 * 4294967296 + y0
  lo : 2147483648 ≤ y1
  hi : y1 < 4294967296
  z0 : 0 ≤ y0
  z1 : y0 < 4294967296
theorem div_l1 {Y y1 y0 u d s q1 U Q : Int} (D : Div1 Y y1 y0) (hu0 : 0 ≤ u) (hu : u < Y) (hd0 : 0 ≤ d) (hd : d < 4294967296) (hs : 0 ≤ s) (hU : U = u * 4294967296 + d) (hQ : Q = U / Y) (m : Nat) :
    ∀ q r : Int, q * y1 + r = u → 0 ≤ q → q ≤ 4294967297 → 0 ≤ r → r < 4294967296 → Q ≤ q → 4294967296 ≤ r + m * 2147483648 →
    Ev (fun k => bits_Div64.l1 k Y s y1 y0 d q1 r u q) (IntKind.u64.wrap (IntKind.u64.wrap (q1 * 4294967296) + Q), shr .u64 (U % Y) s) := by
  obtain ⟨hY, h1, h1', h0, h0'⟩ := D
  induction m with
  | zero => intro q r _ _ _ _ _ _ hm; omega
  | succ m ih =>
    intro q r hqr hq0 hq hr0 hr hge hm
    have H := digit hY h1 h0 h0' hu0 hu hd0 hd hU hQ hqr hq0 hq hr0 hr hge
    have rw_ := rest_word (show 0 < Y by omega) (by omega) hU hQ
    have yes : ((q ≥ 4294967296 ∨ q < 4294967296 ∧ 4294967296 * r + d < q * y0) ∧ Q ≤ q - 1 ∧ 1 ≤ q ∧ (r + y1 ≥ 4294967296 → q - 1 = Q)) → Ev (fun k => bits_Div64.j4 k Y s y1 y0 d q1 r u q true) (IntKind.u64.wrap (IntKind.u64.wrap (q1 * 4294967296) + Q), shr .u64 (U % Y) s) := by
      rintro ⟨_, h3, h4, h5⟩
      refine Ev.step (fun k => by simp only [bits_Div64.j4]; rfl) ?_
      refine Ev.pos (by first | trivial | rfl) ?_
      rw [u64_eq (x := r + y1) (by omega) (by omega), u64_eq (x := q - 1) (by omega) (by omega)]
      refine Ev.ite (fun h6 => Ev.pos hs (Ev.ok ?_)) (fun h6 => ?_)
      · rw [h5 h6, rw_]
      exact ih (q - 1) (r + y1) (by rw [Int.sub_mul]; omega) (by omega) (by omega) (by omega) (by omega) h3 (by omega)
    have no : q = Q → Ev (fun k => bits_Div64.j4 k Y s y1 y0 d q1 r u q false) (IntKind.u64.wrap (IntKind.u64.wrap (q1 * 4294967296) + Q), shr .u64 (U % Y) s) := by
      rintro rfl
      refine Ev.step (fun k => by simp only [bits_Div64.j4]; rfl) ?_
      refine Ev.neg (by decide) (Ev.pos hs (Ev.ok ?_))
      rw [rw_]
    refine Ev.step (fun k => by simp only [bits_Div64.l1]; rfl) ?_
    refine Ev.ite (fun h6 => ?_) (fun h6 => ?_)
    · rcases H with H | H
      · exact yes H
      omega
    have hb : q * y0 ≤ 4294967295 * 4294967295 := Int.mul_le_mul (by omega) (by omega) h0 (by decide)
    have hb0 : 0 ≤ q * y0 := Int.mul_nonneg hq0 h0
    rw [u64_eq (x := q * y0) hb0 (by omega), u64_eq (x := 4294967296 * r) (by omega) (by omega), u64_eq (x := 4294967296 * r + d) (by omega) (by omega)]
    rcases H with H | H
    · rw [decide_eq_true (by omega)]; exact yes H
    rw [decide_eq_false (by omega)]; exact no H.2.2
theorem div_l0 {Y y1 y0 u d d0 s U Q : Int} {R : Int × Int} (D : Div1 Y y1 y0) (hu0 : 0 ≤ u) (hu : u < Y) (hd0 : 0 ≤ d) (hd : d < 4294967296) (hU : U = u * 4294967296 + d) (hQ : Q = U / Y)
    (next : Ev (fun k => bits_Div64.j2 k Y s y1 y0 u d d0 Q) R) (m : Nat) :
    ∀ q r : Int, q * y1 + r = u → 0 ≤ q → q ≤ 4294967297 → 0 ≤ r → r < 4294967296 → Q ≤ q → 4294967296 ≤ r + m * 2147483648 →
    Ev (fun k => bits_Div64.l0 k Y s y1 y0 u d d0 q r) R := by
  obtain ⟨hY, h1, h1', h0, h0'⟩ := D
  induction m with
  | zero => intro q r _ _ _ _ _ _ hm; omega
  | succ m ih =>
    intro q r hqr hq0 hq hr0 hr hge hm
    have H := digit hY h1 h0 h0' hu0 hu hd0 hd hU hQ hqr hq0 hq hr0 hr hge
    have yes : ((q ≥ 4294967296 ∨ q < 4294967296 ∧ 4294967296 * r + d < q * y0) ∧ Q ≤ q - 1 ∧ 1 ≤ q ∧ (r + y1 ≥ 4294967296 → q - 1 = Q)) → Ev (fun k => bits_Div64.j1 k Y s y1 y0 u d d0 q r true) R := by
      rintro ⟨_, h3, h4, h5⟩
      refine Ev.step (fun k => by simp only [bits_Div64.j1]; rfl) ?_
      refine Ev.pos (by first | trivial | rfl) ?_
      rw [u64_eq (x := r + y1) (by omega) (by omega), u64_eq (x := q - 1) (by omega) (by omega)]
      refine Ev.ite (fun h6 => ?_) (fun h6 => ?_)
      · rw [h5 h6]; exact next
      exact ih (q - 1) (r + y1) (by rw [Int.sub_mul]; omega) (by omega) (by omega) (by omega) (by omega) h3 (by omega)
    have no : q = Q → Ev (fun k => bits_Div64.j1 k Y s y1 y0 u d d0 q r false) R := by
      rintro rfl
      refine Ev.step (fun k => by simp only [bits_Div64.j1]; rfl) ?_
      exact Ev.neg (by decide) next
    refine Ev.step (fun k => by simp only [bits_Div64.l0]; rfl) ?_
    refine Ev.ite (fun h6 => ?_) (fun h6 => ?_)
    · rcases H with H | H
      · exact yes H
      omega
    have hb : q * y0 ≤ 4294967295 * 4294967295 := Int.mul_le_mul (by omega) (by omega) h0 (by decide)
    have hb0 : 0 ≤ q * y0 := Int.mul_nonneg hq0 h0
    rw [u64_eq (x := q * y0) hb0 (by omega), u64_eq (x := 4294967296 * r) (by omega) (by omega), u64_eq (x := 4294967296 * r + d) (by omega) (by omega)]
    rcases H with H | H
    · rw [decide_eq_true (by omega)]; exact yes H
    rw [decide_eq_false (by omega)]; exact no H.2.2
theorem guess {Y y1 y0 u d U Q : Int} (D : Div1 Y y1 y0) (hu0 : 0 ≤ u) (hu : u < Y) (hd0 : 0 ≤ d) (hd : d < 4294967296) (hU : U = u * 4294967296 + d) (hQ : Q = U / Y) :
    ∃ q r : Int, IntKind.u64.wrap (Int.tdiv u y1) = q ∧ IntKind.u64.wrap (u - IntKind.u64.wrap (q * y1)) = r ∧ q * y1 + r = u ∧ 0 ≤ q ∧ q ≤ 4294967297 ∧ 0 ≤ r ∧ r < 4294967296 ∧ Q ≤ q := by
  obtain ⟨hY, h1, h1', h0, h0'⟩ := D
  have hq0 : 0 ≤ u / y1 := Int.ediv_nonneg hu0 (by omega)
  have hq : u / y1 < 4294967298 := by rw [Int.ediv_lt_iff_lt_mul (by omega)]; omega
  have hm := Int.emod_def u y1
  have hr0 := Int.emod_nonneg u (show y1 ≠ 0 by omega)
  have hr := Int.emod_lt_of_pos u (show 0 < y1 by omega)
  have hc : u / y1 * y1 = u - u % y1 := by rw [Int.mul_comm]; omega
  have hcp : 0 ≤ u / y1 * y1 := Int.mul_nonneg hq0 (by omega)
  refine ⟨u / y1, u % y1, ?_, ?_, by omega, hq0, by omega, hr0, by omega, ?_⟩
  · rw [Int.tdiv_eq_ediv_of_nonneg hu0, u64_eq hq0 (by omega)]
  · rw [hc, u64_eq (x := u - u % y1) (by omega) (by omega), show u - (u - u % y1) = u % y1 by omega, u64_eq (by omega) (by omega)]
  have hlt : Q < u / y1 + 1 := by
    rw [hQ, Int.ediv_lt_iff_lt_mul (by omega), hY, Int.mul_add, ← Int.mul_assoc, Int.add_mul, hc, Int.one_mul]
    have : 0 ≤ (u / y1 + 1) * y0 := Int.mul_nonneg (by omega) h0
    omega
  omega
theorem shl_at {x y s : Int} {n : Nat} (hs : s = (n : Int)) (hn : n ≤ 64) (h : x * 2 ^ n = y) (h0 : 0 ≤ y) (h1 : y < 18446744073709551616) : shl .u64 x s = y := by
  unfold shl
  rw [hs, Int.toNat_natCast, Nat.min_eq_left (by simpa [IntKind.bits] using hn), h, u64_eq h0 h1]
theorem and32' {x : Int} (h0 : 0 ≤ x) (h1 : x < 18446744073709551616) : Go.bits .and .u64 x 4294967295 = x % 4294967296 :=
  Go.bits_mask .u64 64 (by decide) (fun n h0 h1 => u64_eq h0 h1) 32 (by decide) x h0 h1
theorem div64_f {a b c : Int} (ha0 : 0 ≤ a) (ha : a < c) (hb0 : 0 ≤ b) (hb : b < 18446744073709551616) (hc : c < 18446744073709551616) :
    Ev (fun k => bits_Div64.f k a b c) ((a * 18446744073709551616 + b) / c, (a * 18446744073709551616 + b) % c) := by
  have hc0 : 0 < c := by omega
  unfold bits_Div64.f
  refine Ev.neg (by omega) (Ev.neg (by omega) ?_)
  by_cases hz : a = 0
  · refine Ev.pos hz (Ev.ok ?_)
    subst hz
    rw [Int.zero_mul, Int.zero_add, Int.tdiv_eq_ediv_of_nonneg hb0, Int.tmod_eq_emod_of_nonneg hb0]
    have h1 := Int.ediv_nonneg hb0 (show 0 ≤ c by omega)
    have h2 := Int.ediv_le_self c hb0
    rw [u64_eq h1 (by omega)]
  refine Ev.neg hz ?_
  obtain ⟨n, hev, hn1, hn2, hlo, hhi⟩ := len64_f hc0 hc
  obtain ⟨s, hs⟩ : ∃ s : Nat, s = 64 - n := ⟨_, rfl⟩
  have hsn : s + n = 64 := by omega
  have hs63 : s ≤ 63 := by omega
  obtain ⟨p, hp⟩ : ∃ p : Int, p = 2 ^ s := ⟨_, rfl⟩
  obtain ⟨r, hr⟩ : ∃ r : Int, r = 2 ^ n := ⟨_, rfl⟩
  have hp0 : 0 < p := by rw [hp]; exact Int.pow_pos (by decide)
  have hr0 : 0 < r := by rw [hr]; exact Int.pow_pos (by decide)
  have hpr : p * r = 18446744073709551616 := by rw [hp, hr, ← Int.pow_add, hsn]; decide
  have hY1 : c * p < 18446744073709551616 := by
    rw [← hpr, Int.mul_comm p r]
    exact Int.mul_lt_mul_of_pos_right (by rw [hr]; exact hhi) hp0
  have hY0 : 9223372036854775808 ≤ c * p := by
    have h1 : (2 : Int) ^ (n - 1) * p ≤ c * p := Int.mul_le_mul_of_nonneg_right hlo (by omega)
    have h2 : (2 : Int) ^ (n - 1) * p = 9223372036854775808 := by
      rw [hp, ← Int.pow_add, show n - 1 + s = 63 by omega]; decide
    omega
  obtain ⟨Y, hY⟩ : ∃ Y, Y = c * p := ⟨_, rfl⟩
  rw [← hY] at hY0 hY1
  have haY : a * p < Y := by rw [hY]; exact Int.mul_lt_mul_of_pos_right ha hp0
  have hap0 : 0 ≤ a * p := Int.mul_nonneg ha0 (by omega)
  have hbr0 : 0 ≤ b / r := Int.ediv_nonneg hb0 (by omega)
  have hbr : b / r < p := by rw [Int.ediv_lt_iff_lt_mul hr0, hpr]; exact hb
  have eY : shl .u64 c (s : Int) = Y := shl_at rfl (by omega) (by rw [hY, hp]) (by omega) hY1
  have ea : shl .u64 a (s : Int) = a * p := shl_at rfl (by omega) (by rw [hp]) hap0 (by omega)
  have eb : shr .u64 b (n : Int) = b / r := by
    unfold shr
    rw [Int.toNat_natCast, Nat.min_eq_left (by simpa [IntKind.bits] using hn2), hr]
  have eb2 : shl .u64 b (s : Int) = (b * p) % 18446744073709551616 := by
    unfold shl
    rw [Int.toNat_natCast, Nat.min_eq_left (by simp [IntKind.bits]; omega), u64_mod, hp]
  have hor : Go.bits .or .u64 (a * p) (b / r) = a * p + b / r := by
    refine Go.bits_join .u64 64 (by decide) (fun n h0 h1 => u64_eq h0 h1) s (a * p) (b / r) hap0 ?_ ?_ hbr0 ?_ ?_
    · rw [hp]; exact Int.mul_emod_left _ _
    · exact Int.lt_trans haY hY1
    · rw [← hp]; exact hbr
    have : p ≤ 18446744073709551616 := by
      rw [← hpr]
      have := Int.mul_le_mul_of_nonneg_left (show (1 : Int) ≤ r by omega) (show 0 ≤ p by omega)
      omega
    exact Int.lt_of_lt_of_le hbr this
  obtain ⟨u, hu⟩ : ∃ u, u = a * p + b / r := ⟨_, rfl⟩
  rw [← hu] at hor
  have huY : u < Y := by
    have h1 : (a + 1) * p ≤ c * p := Int.mul_le_mul_of_nonneg_right (by omega) (by omega)
    rw [Int.add_mul, Int.one_mul, ← hY] at h1
    omega
  have hu0 : 0 ≤ u := by omega
  obtain ⟨v, hv⟩ : ∃ v, v = (b * p) % 18446744073709551616 := ⟨_, rfl⟩
  rw [← hv] at eb2
  have hv0 : 0 ≤ v := by omega
  have hv1 : v < 18446744073709551616 := by omega
  have hbp : b * p = (b / r) * 18446744073709551616 + v := by
    have h1 : b * p / 18446744073709551616 = b / r := by
      rw [← hpr, Int.mul_comm p r]
      exact Int.mul_ediv_mul_of_pos_left b r hp0
    have h2 := Int.mul_ediv_add_emod (b * p) 18446744073709551616
    rw [h1, ← hv] at h2
    omega
  have hN : (a * 18446744073709551616 + b) * p = u * 18446744073709551616 + v := by
    rw [Int.add_mul, hbp, hu, Int.add_mul, Int.mul_right_comm]
    omega
  have ew : IntKind.u64.wrap (wrap64 (64 - (n : Int))) = (s : Int) := by
    rw [wrap_eq (by omega) (by omega), u64_eq (by omega) (by omega)]; omega
  have ew2 : IntKind.u64.wrap (64 - (s : Int)) = (n : Int) := by rw [u64_eq (by omega) (by omega)]; omega
  have hlz : Ev (fun k => bits_LeadingZeros64.f k c) (wrap64 (64 - (n : Int))) := by
    unfold bits_LeadingZeros64.f
    exact Ev.bind hev (Ev.ok rfl)
  refine Ev.bind hlz ?_
  simp only [ew, ew2, eY, ea, eb, eb2, hor]
  have D : Div1 Y (Y / 4294967296) (Go.bits .and .u64 Y 4294967295) := by
    rw [and32' (by omega) hY1]
    exact ⟨by omega, by omega, by omega, by omega, by omega⟩
  rw [and32' hv0 hv1]
  refine Ev.pos (by omega) (Ev.pos (by omega) (Ev.neg (by have := D.lo; omega) ?_))
  obtain ⟨y1, hy1⟩ : ∃ x, x = Y / 4294967296 := ⟨_, rfl⟩
  obtain ⟨y0, hy0⟩ : ∃ x, x = Go.bits .and .u64 Y 4294967295 := ⟨_, rfl⟩
  rw [← hy1, ← hy0] at D ⊢
  obtain ⟨d1, hd1⟩ : ∃ x, x = v / 4294967296 := ⟨_, rfl⟩
  obtain ⟨d0, hd0⟩ : ∃ x, x = v % 4294967296 := ⟨_, rfl⟩
  rw [← hd1, ← hd0]
  obtain ⟨U1, hU1⟩ : ∃ x, x = u * 4294967296 + d1 := ⟨_, rfl⟩
  obtain ⟨Q1, hQ1⟩ : ∃ x, x = U1 / Y := ⟨_, rfl⟩
  obtain ⟨R1, hR1⟩ : ∃ x, x = U1 % Y := ⟨_, rfl⟩
  obtain ⟨U0, hU0⟩ : ∃ x, x = R1 * 4294967296 + d0 := ⟨_, rfl⟩
  obtain ⟨Q0, hQ0⟩ : ∃ x, x = U0 / Y := ⟨_, rfl⟩
  have hYp : 0 < Y := by omega
  have hR10 : 0 ≤ R1 := by rw [hR1]; exact Int.emod_nonneg _ (by omega)
  have hR1Y : R1 < Y := by rw [hR1]; exact Int.emod_lt_of_pos _ hYp
  have e1 : U1 = Q1 * Y + R1 := by rw [hQ1, hR1, Int.mul_comm]; exact (Int.mul_ediv_add_emod U1 Y).symm
  have hQ1lt : Q1 < 4294967296 := by rw [hQ1, Int.ediv_lt_iff_lt_mul hYp]; omega
  have hQ10 : 0 ≤ Q1 := by rw [hQ1]; exact Int.ediv_nonneg (by omega) (by omega)
  have hQ0lt : Q0 < 4294967296 := by rw [hQ0, Int.ediv_lt_iff_lt_mul hYp]; omega
  have hQ00 : 0 ≤ Q0 := by rw [hQ0]; exact Int.ediv_nonneg (by omega) (by omega)
  have hNU : (a * 18446744073709551616 + b) * p = U0 + (Q1 * 4294967296) * Y := by
    rw [hN, hU0, Int.mul_right_comm]
    have : Q1 * Y = U1 - R1 := by omega
    rw [this]
    omega
  have hq : (a * 18446744073709551616 + b) / c = Q1 * 4294967296 + Q0 := by
    rw [← Int.mul_ediv_mul_of_pos_left _ c hp0, ← hY, hNU, Int.add_mul_ediv_right _ _ (by omega), ← hQ0]
    omega
  have hm : (a * 18446744073709551616 + b) % c = (U0 % Y) / p := by
    have h1 : (a * 18446744073709551616 + b) * p % (c * p) = (a * 18446744073709551616 + b) % c * p := by
      rw [Int.mul_comm _ p, Int.mul_comm c p, Int.mul_emod_mul_of_pos _ _ hp0, Int.mul_comm]
    rw [← hY, hNU, Int.add_mul_emod_self_right] at h1
    rw [h1, Int.mul_ediv_cancel _ (by omega)]
  have last : shr .u64 (U0 % Y) (s : Int) = (a * 18446744073709551616 + b) % c := by
    rw [hm, hp]
    unfold shr
    rw [Int.toNat_natCast, Nat.min_eq_left (by simp [IntKind.bits]; omega)]
  have res : (IntKind.u64.wrap (IntKind.u64.wrap (Q1 * 4294967296) + Q0), shr .u64 (U0 % Y) (s : Int)) = ((a * 18446744073709551616 + b) / c, (a * 18446744073709551616 + b) % c) := by
    rw [last, hq, u64_eq (x := Q1 * 4294967296) (by omega) (by omega), u64_eq (by omega) (by omega)]
  rw [← res]
  obtain ⟨q, rr, g1, g2, g3, g4, g5, g6, g7, g8⟩ := guess D hu0 huY (by omega) (by omega) hU1 hQ1
  rw [g1, g2]
  refine div_l0 D hu0 huY (by omega) (by omega) hU1 hQ1 ?_ 2 q rr g3 g4 g5 g6 g7 g8 (by omega)
  refine Ev.step (fun k => by simp only [bits_Div64.j2]; rfl) ?_
  refine Ev.neg (by have := D.lo; omega) ?_
  rw [rest_word hYp hY1 hU1 hQ1, ← hR1]
  obtain ⟨q', r', g1, g2, g3, g4, g5, g6, g7, g8⟩ := guess D hR10 hR1Y (by omega) (by omega) hU0 hQ0
  rw [g1, g2]
  exact div_l1 D hR10 hR1Y (by omega) (by omega) (by omega) hU0 hQ0 2 q' r' g3 g4 g5 g6 g7 g8 (by omega)
end Go.Proofs.Ytefhljhpcpajgaa.Q
set_option linter.unusedVariables false
namespace Go.Proofs.Ytefhljhpcpajgaa.Q
open Go.RowKit Go.Proofs.Ytefhljhpcpajgaa.F Go.Proofs.YtefhljhpcpajgaaW.PrintWords Go.Proofs.YtefhljhpcpajgaaW.PrintLast Go.Proofs.YtefhljhpcpajgaaW.PrintMore
def may (a b c : Int) : Prop := 0 ≤ a ∧ a ≤ 1000000000000 ∧ 0 ≤ b ∧ b ≤ 1000000000000 ∧ c ≤ 1000000000000
instance (a b c : Int) : Decidable (may a b c) := by unfold may; infer_instance
def divS (a b c : Int) : Int × Int × Int := if c < 1 then (0, 0, 2) else if may a b c then (if a * b > c * 1000000000001 then (0, 0, 8) else (a * b / c, a * b % c, 0)) else (0, 0, 8)
def floorS (a b c : Int) : Int × Int := if c < 1 then (0, 2) else if may a b c then toldS (a * b / c) else (0, 8)
def halfS (a b c : Int) : Int × Int := if c < 1 then (0, 2) else if may a b c then (if a * b % c ≥ c - a * b % c then toldS (a * b / c + 1) else toldS (a * b / c)) else (0, 8)
def restS (a b c : Int) : Int × Int := if c < 1 then (0, 2) else if may a b c then (if amt (a * b / c) then (a * b % c, 0) else (0, 8)) else (0, 8)
theorem mul_bound {x y B C : Int} (hx0 : 0 ≤ x) (hx : x ≤ B) (hy0 : 0 ≤ y) (hy : y ≤ C) : 0 ≤ x * y ∧ x * y ≤ B * C :=
  ⟨Int.mul_nonneg hx0 hy0, Int.mul_le_mul hx hy hy0 (by omega)⟩
theorem divided_f (a b c : Int) (hc1 : -9223372036854775808 ≤ c) (hc2 : c ≤ 9223372036854775807) : Ev (fun k => cents_divided.f k a b c) (divS a b c) := by
  unfold cents_divided.f divS
  refine Ev.ite (fun h => Ev.ok (by rw [if_pos h])) (fun h => ?_)
  rw [if_neg h]
  have bad : ¬ may a b c → (if may a b c then (if a * b > c * 1000000000001 then (0, 0, 8) else (a * b / c, a * b % c, 0)) else ((0 : Int), (0 : Int), (8 : Int))) = (0, 0, 8) := fun h => if_neg h
  refine Ev.ite (fun h1 => Ev.ok (bad (by unfold may; omega)).symm) (fun h1 => ?_)
  refine Ev.ite (fun h2 => Ev.ok (bad (by unfold may; omega)).symm) (fun h2 => ?_)
  refine Ev.bindc (in_f _) (Ev.ite (fun h3 => ?_) (fun h3 => Ev.ok (bad (fun hm => h3 (decide_eq_true (by unfold may at hm; unfold amt; omega)))).symm))
  refine Ev.bindc (in_f _) (Ev.ite (fun h4 => ?_) (fun h4 => Ev.ok (bad (fun hm => h4 (decide_eq_true (by unfold may at hm; unfold amt; omega)))).symm))
  refine Ev.bindc (in_f _) (Ev.ite (fun h5 => ?_) (fun h5 => Ev.ok (bad (fun hm => h5 (decide_eq_true (by unfold may at hm; unfold amt; omega)))).symm))
  have hm : may a b c := by
    have := of_decide_eq_true h3; have := of_decide_eq_true h4; have := of_decide_eq_true h5
    unfold amt at *; unfold may; omega
  rw [if_pos hm]
  unfold may at hm
  rw [u64_eq (x := a) (by omega) (by omega), u64_eq (x := b) (by omega) (by omega), u64_eq (x := c) (by omega) (by omega)]
  obtain ⟨m0, m1⟩ := mul_bound (x := a) (y := b) (B := 1000000000000) (C := 1000000000000) (by omega) (by omega) (by omega) (by omega)
  refine Ev.bindc (product_f (by omega) (by omega) (by omega) (by omega)) ?_
  refine Ev.bindc (product_f (by omega) (by omega) (by omega) (by omega)) ?_
  refine Ev.bindc (above_f m0 (by omega)) ?_
  by_cases h6 : a * b > c * 1000000000001
  · rw [if_pos h6]
    exact Ev.pos (decide_eq_true h6) (Ev.ok rfl)
  rw [if_neg h6]
  refine Ev.neg (by simp; omega) (Ev.neg (by dsimp only; omega) ?_)
  refine Ev.bind (div64_f (a := a * b / 18446744073709551616) (b := a * b % 18446744073709551616) (by omega) (by omega) (by omega) (by omega) (by omega)) ?_
  have e : a * b / 18446744073709551616 * 18446744073709551616 + a * b % 18446744073709551616 = a * b := by omega
  rw [e]
  have d0 : 0 ≤ a * b / c := Int.ediv_nonneg m0 (by omega)
  have d1 : a * b / c < 1000000000002 := by rw [Int.ediv_lt_iff_lt_mul (by omega)]; omega
  have r0 := Int.emod_nonneg (a * b) (show c ≠ 0 by omega)
  have r1 := Int.emod_lt_of_pos (a * b) (show 0 < c by omega)
  refine Ev.ok ?_
  dsimp only
  rw [wrap_eq (by omega) (by omega), wrap_eq (by omega) (by omega)]
theorem divS_cases (a b c : Int) : (c < 1 ∧ divS a b c = (0, 0, 2)) ∨ (1 ≤ c ∧ ¬ may a b c ∧ divS a b c = (0, 0, 8)) ∨ (1 ≤ c ∧ may a b c ∧ a * b / c > 1000000000000 ∧ divS a b c = (0, 0, 8)) ∨ (1 ≤ c ∧ may a b c ∧ 0 ≤ a * b / c ∧ a * b / c ≤ 1000000000001 ∧ 0 ≤ a * b % c ∧ a * b % c < c ∧ divS a b c = (a * b / c, a * b % c, 0)) := by
  unfold divS
  by_cases h : c < 1
  · exact .inl ⟨h, if_pos h⟩
  rw [if_neg h]
  by_cases h1 : may a b c
  · rw [if_pos h1]
    by_cases h2 : a * b > c * 1000000000001
    · refine .inr (.inr (.inl ⟨by omega, h1, ?_, if_pos h2⟩))
      have : 1000000000001 ≤ a * b / c := by rw [Int.le_ediv_iff_mul_le (by omega)]; omega
      omega
    have h3 := h1
    unfold may at h3
    refine .inr (.inr (.inr ⟨by omega, h1, Int.ediv_nonneg (Int.mul_nonneg h3.1 h3.2.2.1) (by omega), ?_, Int.emod_nonneg _ (by omega), Int.emod_lt_of_pos _ (by omega), if_neg h2⟩))
    have : a * b / c < 1000000000002 := by rw [Int.ediv_lt_iff_lt_mul (by omega)]; omega
    omega
  exact .inr (.inl ⟨by omega, h1, if_neg h1⟩)
theorem toldS_big {n : Int} (h : n > 1000000000000) : toldS n = (0, 8) := by unfold toldS; rw [if_neg (show ¬ amt n by unfold amt; omega)]
section
variable {a b c : Int} (hc1 : -9223372036854775808 ≤ c) (hc2 : c ≤ 9223372036854775807)
include hc1 hc2
theorem floor_f : Ev (fun k => cents_Floor.f k a b c) (floorS a b c) := by
  unfold cents_Floor.f
  refine Ev.bind (divided_f a b c hc1 hc2) ?_
  unfold floorS
  rcases divS_cases a b c with ⟨h, e⟩ | ⟨h, h1, e⟩ | ⟨h, h1, h2, e⟩ | ⟨h, h1, h2, h3, h4, h5, e⟩ <;> rw [e]
  · rw [if_pos h]; exact Ev.neg (by decide) (Ev.ok rfl)
  · rw [if_neg (show ¬ c < 1 by omega), if_neg h1]; exact Ev.neg (by decide) (Ev.ok rfl)
  · rw [if_neg (show ¬ c < 1 by omega), if_pos h1, toldS_big h2]; exact Ev.neg (by decide) (Ev.ok rfl)
  rw [if_neg (show ¬ c < 1 by omega), if_pos h1]; exact Ev.pos (by first | trivial | rfl) (Ev.bindc (told_f _) (Ev.ok rfl))
theorem half_f : Ev (fun k => cents_Half.f k a b c) (halfS a b c) := by
  unfold cents_Half.f
  refine Ev.bind (divided_f a b c hc1 hc2) ?_
  unfold halfS
  rcases divS_cases a b c with ⟨h, e⟩ | ⟨h, h1, e⟩ | ⟨h, h1, h2, e⟩ | ⟨h, h1, h2, h3, h4, h5, e⟩ <;> rw [e]
  · rw [if_pos h]; exact Ev.neg (by decide) (Ev.ok rfl)
  · rw [if_neg (show ¬ c < 1 by omega), if_neg h1]; exact Ev.neg (by decide) (Ev.ok rfl)
  · rw [if_neg (show ¬ c < 1 by omega), if_pos h1, toldS_big h2, toldS_big (by omega)]; simp only [ite_self]; exact Ev.neg (by decide) (Ev.ok rfl)
  rw [if_neg (show ¬ c < 1 by omega), if_pos h1]
  refine Ev.pos (by first | trivial | rfl) ?_
  have hm := h1
  unfold may at hm
  dsimp only
  rw [wrap_eq (x := c - a * b % c) (by omega) (by omega), wrap_eq (x := a * b / c + 1) (by omega) (by omega)]
  refine Ev.ite (fun h6 => ?_) (fun h6 => ?_)
  · rw [if_pos h6]; exact Ev.bindc (told_f _) (Ev.ok rfl)
  rw [if_neg h6]; exact Ev.bindc (told_f _) (Ev.ok rfl)
theorem rest_f : Ev (fun k => cents_Rest.f k a b c) (restS a b c) := by
  unfold cents_Rest.f
  refine Ev.bind (divided_f a b c hc1 hc2) ?_
  unfold restS
  rcases divS_cases a b c with ⟨h, e⟩ | ⟨h, h1, e⟩ | ⟨h, h1, h2, e⟩ | ⟨h, h1, h2, h3, h4, h5, e⟩ <;> rw [e]
  · rw [if_pos h]; exact Ev.neg (by decide) (Ev.ok rfl)
  · rw [if_neg (show ¬ c < 1 by omega), if_neg h1]; exact Ev.neg (by decide) (Ev.ok rfl)
  · rw [if_neg (show ¬ c < 1 by omega), if_pos h1, if_neg (show ¬ amt (a * b / c) by unfold amt; omega)]; exact Ev.neg (by decide) (Ev.ok rfl)
  rw [if_neg (show ¬ c < 1 by omega), if_pos h1]
  refine Ev.pos (by first | trivial | rfl) (Ev.bindc (told_f _) ?_)
  unfold toldS
  dsimp only
  by_cases h6 : amt (a * b / c)
  · simp only [if_pos h6]; exact Ev.pos (by first | trivial | rfl) (Ev.ok rfl)
  simp only [if_neg h6]; exact Ev.neg (by decide) (Ev.ok rfl)
end
end Go.Proofs.Ytefhljhpcpajgaa.Q
set_option linter.unusedVariables false
set_option linter.unusedSimpArgs false
namespace Go.Proofs.Ytefhljhpcpajgaa.Q
open Go.RowKit Go.Proofs.Ytefhljhpcpajgaa.F Go.Proofs.YtefhljhpcpajgaaW.PrintWords Go.Proofs.YtefhljhpcpajgaaW.PrintLast Go.Proofs.YtefhljhpcpajgaaW.PrintMore
theorem even_l0 {n : Nat} (hn : n ≤ 35184372088832) (d : Nat) : ∀ i : Nat, n - i = d → i ≤ n → Ev (fun k => share_even.l0 k (List.replicate i 1 ++ List.replicate (n - i) 0) (n : Int) (i : Int)) (List.replicate n 1) := by
  induction d with
  | zero =>
    intro i hd hi
    obtain rfl : i = n := by omega
    refine Ev.step (fun k => by simp only [share_even.l0]; rfl) ?_
    exact Ev.neg (by omega) (Ev.ok (by simp))
  | succ d ih =>
    intro i hd hi
    refine Ev.step (fun k => by simp only [share_even.l0]; rfl) ?_
    refine Ev.pos (by omega) (Ev.pos (by omega) (Ev.pos (by simp; omega) ?_))
    have e : (List.replicate i (1 : Int) ++ List.replicate (n - i) 0).set (i : Int).toNat 1 = List.replicate (i + 1) 1 ++ List.replicate (n - (i + 1)) 0 := by
      rw [Int.toNat_natCast]
      apply List.ext_getElem
      · simp; omega
      intro p h1 h2
      rw [List.getElem_set]
      simp only [List.getElem_append, List.getElem_replicate, List.length_replicate]
      (repeat' split) <;> first | rfl | omega
    rw [e, wrap_eq (by omega) (by omega)]
    exact ih (i + 1) (by omega) (by omega)
theorem even_f {n : Nat} (hn : n ≤ 35184372088832) : Ev (fun k => share_even.f k (n : Int)) (List.replicate n 1) := by
  unfold share_even.f
  refine Ev.pos (by omega) (Ev.pos (by rw [Int.toNat_natCast]; exact hn) ?_)
  refine Q.Ev.bindc rfl ?_
  have := even_l0 hn n 0 (by omega) (by omega)
  simpa using this
def maxS (m : Int) (l : List Int) : Int := l.foldl mx m
theorem max_l0 {l : List Int} (hl : l.length < 9223372036854775807) (d : Nat) : ∀ (i : Nat) (m : Int), l.length - i = d → i ≤ l.length → Ev (fun k => slices_Max_int_int.l0 k l m (i : Int)) (maxS m (l.drop i)) := by
  induction d with
  | zero =>
    intro i m hd hi
    refine Ev.step (fun k => by simp only [slices_Max_int_int.l0]; rfl) ?_
    refine Ev.neg (by omega) (Ev.ok ?_)
    rw [List.drop_eq_nil_of_le (by omega)]; rfl
  | succ d ih =>
    intro i m hd hi
    have h : i < l.length := by omega
    refine Ev.step (fun k => by simp only [slices_Max_int_int.l0]; rfl) ?_
    refine Ev.pos (by omega) (Ev.pos (by omega) ?_)
    rw [drop_cons h, rd_nat h, wrap_eq (by omega) (by omega)]
    exact ih (i + 1) _ (by omega) (by omega)
theorem maxS_zero {l : List Int} : ∀ {m : Int}, 0 ≤ m → (∀ x ∈ l, 0 ≤ x) → (maxS m l = 0 ↔ m = 0 ∧ sumI l = 0) := by
  induction l with
  | nil => intro m h0 hl; simp [maxS, sumI]
  | cons x l ih =>
    intro m h0 hl
    have hx := hl x List.mem_cons_self
    have hs := sumI_nonneg (fun y hy => hl y (List.mem_cons_of_mem _ hy))
    have := ih (m := mx m x) (by unfold mx; split <;> omega) (fun y hy => hl y (List.mem_cons_of_mem _ hy))
    show maxS (mx m x) l = 0 ↔ _
    rw [this, sumI_cons]
    unfold mx
    split <;> omega
theorem max_f {l : List Int} (h1 : 1 ≤ l.length) (hl : l.length < 9223372036854775807) (h0 : ∀ x ∈ l, 0 ≤ x) : ∃ m, Ev (fun k => slices_Max_int_int.f k l) m ∧ (m = 0 ↔ sumI l = 0) := by
  refine ⟨maxS (rd l 0) (l.drop 1), ?_, ?_⟩
  · unfold slices_Max_int_int.f
    refine Ev.neg (by omega) (Ev.pos (by omega) ?_)
    have := max_l0 hl (l.length - 1) 1 (rd l 0) rfl h1
    exact this
  cases l with
  | nil => simp at h1
  | cons x l =>
    have e : rd (x :: l) 0 = x := rfl
    rw [e, List.drop_succ_cons, List.drop_zero, maxS_zero (h0 x List.mem_cons_self) (fun y hy => h0 y (List.mem_cons_of_mem _ hy)), sumI_cons]
    have := h0 x List.mem_cons_self
    have := sumI_nonneg (fun y hy => h0 y (List.mem_cons_of_mem _ hy))
    omega
def negs (l : List Int) : Bool := l.any fun x => decide (x < 0)
theorem negs_false {l : List Int} : negs l = false ↔ ∀ x ∈ l, 0 ≤ x := by
  unfold negs
  rw [List.any_eq_false]
  exact ⟨fun h x hx => by have := h x hx; simp at this; omega, fun h x hx => by have := h x hx; simp; omega⟩
def wholeS (l : List Int) : Int × Int := if l.length < 1 ∨ 200 < l.length then (0, 2) else if negs l = true then (0, 8) else if 1000000000000 < sumI l then (0, 8) else if sumI l = 0 then ((l.length : Int), 0) else (sumI l, 0)
theorem sumS_nonneg {l : List Int} : ∀ {n : Int}, 0 ≤ n → n ≤ 1000000000000 → (∀ x ∈ l, 0 ≤ x) → sumS n l = if 1000000000000 < n + sumI l then (0, 8) else (n + sumI l, 0) := by
  induction l with
  | nil => intro n h0 h1 _; rw [show sumI ([] : List Int) = 0 from rfl, if_neg (by omega)]; simp [sumS]
  | cons x l ih =>
    intro n h0 h1 h
    have hx := h x List.mem_cons_self
    have hl := fun y hy => h y (List.mem_cons_of_mem _ hy)
    have hs := sumI_nonneg hl
    simp only [sumS]
    rw [sumI_cons]
    by_cases c : amt x ∧ amt (n + x)
    · rw [if_pos c, ih (by omega) (by have := c.2; unfold amt at this; omega) hl]
      rw [show n + x + sumI l = n + (x + sumI l) by omega]
    rw [if_neg c, if_pos (by unfold amt at c; omega)]
theorem whole_l0 {l : List Int} (hl : l.length ≤ 200) (d : Nat) : ∀ i : Nat, l.length - i = d → i ≤ l.length → (∀ x ∈ l.take i, 0 ≤ x) → Ev (fun k => share_Whole.l0 k l l (l.length : Int) (i : Int)) (if negs l = true then (0, 8) else if 1000000000000 < sumI l then (0, 8) else if sumI l = 0 then ((l.length : Int), 0) else (sumI l, 0)) := by
  induction d with
  | zero =>
    intro i hd hi ht
    refine Ev.step (fun k => by simp only [share_Whole.l0]; rfl) ?_
    refine Ev.neg (by omega) ?_
    rw [List.take_of_length_le (by omega)] at ht
    rw [if_neg (by rw [negs_false.2 ht]; decide)]
    refine Ev.bind (cents_Add_f (l := l) (by omega)) ?_
    rw [sumS_nonneg (by omega) (by omega) ht, show (0 : Int) + sumI l = sumI l by omega]
    by_cases c : 1000000000000 < sumI l
    · rw [if_pos c, if_pos c]
      exact Ev.neg (by decide) (Ev.const rfl)
    rw [if_neg c, if_neg c]
    refine Ev.pos rfl ?_
    exact Q.Ev.ite (fun h => Ev.ok (by rw [if_pos h])) (fun h => Ev.ok (by rw [if_neg h]))
  | succ d ih =>
    intro i hd hi ht
    have h : i < l.length := by omega
    refine Ev.step (fun k => by simp only [share_Whole.l0]; rfl) ?_
    refine Ev.pos (by omega) (Ev.pos (by omega) (Ev.pos (by omega) ?_))
    rw [rd_nat h]
    by_cases c : l[i] < 0
    · refine Ev.pos c (Ev.ok ?_)
      rw [if_pos]
      unfold negs
      exact List.any_eq_true.2 ⟨l[i], List.getElem_mem h, decide_eq_true c⟩
    refine Ev.neg c ?_
    rw [wrap_eq (by omega) (by omega)]
    refine ih (i + 1) (by omega) (by omega) (fun x hx => ?_)
    rw [List.take_succ_eq_append_getElem h] at hx
    rcases List.mem_append.1 hx with hx | hx
    · exact ht x hx
    rw [List.mem_singleton.1 hx]; omega
theorem whole_f {l : List Int} (hl : l.length < 9223372036854775807) : Ev (fun k => share_Whole.f k l) (wholeS l) := by
  unfold share_Whole.f wholeS
  by_cases h1 : l.length < 1
  · refine Ev.pos (by omega) ?_
    refine Ev.step (fun k => by simp only [share_Whole.j0]; rfl) ?_
    exact Ev.pos (by simp) (Ev.ok (by rw [if_pos (.inl h1)]))
  refine Ev.neg (by omega) ?_
  refine Ev.step (fun k => by simp only [share_Whole.j0]; rfl) ?_
  by_cases h2 : 200 < l.length
  · exact Ev.pos (decide_eq_true (by omega)) (Ev.ok (by rw [if_pos (.inr h2)]))
  refine Ev.neg (by simp; omega) ?_
  rw [if_neg (by omega)]
  exact whole_l0 (by omega) l.length 0 (by omega) (by omega) (by simp)
def eff (l : List Int) : List Int := if sumI l = 0 then List.replicate l.length 1 else l
theorem sumI_ones (n : Nat) : sumI (List.replicate n 1) = (n : Int) := by
  induction n with
  | zero => simp [sumI]
  | succ n ih => rw [List.replicate_succ, sumI_cons, ih]; omega
theorem whole_ok {l : List Int} (h : (wholeS l).2 = 0) : 1 ≤ l.length ∧ l.length ≤ 200 ∧ (∀ x ∈ l, 0 ≤ x) ∧ sumI l ≤ 1000000000000 ∧ 1 ≤ (wholeS l).1 ∧ (wholeS l).1 ≤ 1000000000000 ∧ sumI (eff l) = (wholeS l).1 ∧ (∀ x ∈ eff l, 0 ≤ x) := by
  unfold wholeS at h ⊢
  by_cases h1 : l.length < 1 ∨ 200 < l.length
  · rw [if_pos h1] at h; simp at h
  rw [if_neg h1] at h ⊢
  by_cases h2 : negs l = true
  · rw [if_pos h2] at h; simp at h
  rw [if_neg h2] at h ⊢
  have h0 := negs_false.1 (by simpa using h2)
  have hs := sumI_nonneg h0
  by_cases h3 : 1000000000000 < sumI l
  · rw [if_pos h3] at h; simp at h
  rw [if_neg h3] at h ⊢
  unfold eff
  by_cases h4 : sumI l = 0
  · rw [if_pos h4, if_pos h4, sumI_ones]
    refine ⟨by omega, by omega, h0, by omega, by dsimp only; omega, by dsimp only; omega, rfl, fun x hx => ?_⟩
    rw [(List.mem_replicate.1 hx).2]; omega
  rw [if_neg h4, if_neg h4]
  exact ⟨by omega, by omega, h0, by omega, by dsimp only; omega, by dsimp only; omega, rfl, h0⟩
theorem prt_ok {t s w : Int} (ht : 0 ≤ t) (ht2 : t ≤ 1000000000000) (hs : 1 ≤ s) (hw : 0 ≤ w) (hws : w ≤ s) : 0 ≤ prt t s w ∧ prt t s w ≤ t ∧ 0 ≤ rst t s w ∧ rst t s w < s := by
  unfold prt rst
  refine ⟨Int.ediv_nonneg (Int.mul_nonneg ht hw) (by omega), ?_, Int.emod_nonneg _ (by omega), Int.emod_lt_of_pos _ (by omega)⟩
  exact Int.ediv_le_of_le_mul (by omega) (Int.mul_le_mul_of_nonneg_left hws ht)
theorem floor_at {t s w : Int} (ht : 0 ≤ t) (ht2 : t ≤ 1000000000000) (hs : 1 ≤ s) (hs2 : s ≤ 1000000000000) (hw : 0 ≤ w) (hws : w ≤ s) : floorS t w s = (prt t s w, 0) := by
  have h := prt_ok ht ht2 hs hw hws
  unfold floorS
  rw [if_neg (by omega), if_pos (by unfold may; omega)]
  unfold toldS
  rw [if_pos (by unfold amt; unfold prt at h; omega)]
  rfl
theorem rest_at {t s w : Int} (ht : 0 ≤ t) (ht2 : t ≤ 1000000000000) (hs : 1 ≤ s) (hs2 : s ≤ 1000000000000) (hw : 0 ≤ w) (hws : w ≤ s) : restS t w s = (rst t s w, 0) := by
  have h := prt_ok ht ht2 hs hw hws
  unfold restS
  rw [if_neg (by omega), if_pos (by unfold may; omega), if_pos (by unfold amt; unfold prt at h; omega)]
  rfl
theorem parts_l0 {t s : Int} {l : List Int} (hl : l.length ≤ 200) (ht : 0 ≤ t) (ht2 : t ≤ 1000000000000) (hs : 1 ≤ s) (hs2 : s ≤ 1000000000000) (h0 : ∀ x ∈ l, 0 ≤ x ∧ x ≤ s) (d : Nat) : ∀ (i : Nat) (L : Int) (A B : List Int), l.length - i = d → i ≤ l.length → A.length = i → B.length = i → L ≤ 1000000000000 → -((i : Int) * 1000000000000) ≤ L →
    Ev (fun k => share_parts.l0 k t s A B L l (l.length : Int) (i : Int)) (A ++ (l.drop i).map (prt t s), B ++ (l.drop i).map (rst t s), L - sumI ((l.drop i).map (prt t s)), 0) := by
  induction d with
  | zero =>
    intro i L A B hd hi hA hB hL hL2
    refine Ev.step (fun k => by simp only [share_parts.l0]; rfl) ?_
    refine Ev.neg (by omega) (Ev.ok ?_)
    rw [List.drop_eq_nil_of_le (by omega)]; simp [sumI]
  | succ d ih =>
    intro i L A B hd hi hA hB hL hL2
    have h : i < l.length := by omega
    have hx := h0 l[i] (List.getElem_mem h)
    have hp := prt_ok ht ht2 hs hx.1 hx.2
    refine Ev.step (fun k => by simp only [share_parts.l0]; rfl) ?_
    refine Ev.pos (by omega) (Ev.pos (by omega) (Ev.pos (by omega) ?_))
    rw [rd_nat h]
    refine Ev.bind (floor_f (by omega) (by omega)) ?_
    rw [floor_at ht ht2 hs hs2 hx.1 hx.2]
    refine Ev.pos rfl (Ev.bind (rest_f (by omega) (by omega)) ?_)
    rw [rest_at ht ht2 hs hs2 hx.1 hx.2]
    refine Ev.pos rfl (Ev.pos (by omega) (Ev.pos (by omega) ?_))
    dsimp only
    rw [wrap_eq (by omega) (by omega), wrap_eq (by omega) (by omega), drop_cons h]
    have := ih (i + 1) (L - prt t s l[i]) (A ++ [prt t s l[i]]) (B ++ [rst t s l[i]]) (by omega) (by omega) (by simp [hA]) (by simp [hB]) (by omega) (by omega)
    simp only [List.map_cons, sumI_cons, List.append_assoc, List.singleton_append] at this ⊢
    rw [show L - (prt t s l[i] + sumI ((l.drop (i + 1)).map (prt t s))) = L - prt t s l[i] - sumI ((l.drop (i + 1)).map (prt t s)) by omega]
    exact this
theorem parts_f {t s : Int} {l : List Int} (hl : l.length ≤ 200) (ht : 0 ≤ t) (ht2 : t ≤ 1000000000000) (hs : 1 ≤ s) (hs2 : s ≤ 1000000000000) (h0 : ∀ x ∈ l, 0 ≤ x ∧ x ≤ s) : Ev (fun k => share_parts.f k t s l) (l.map (prt t s), l.map (rst t s), leftI t s l, 0) := by
  unfold share_parts.f
  have := parts_l0 hl ht ht2 hs hs2 h0 l.length 0 t [] [] (by omega) (by omega) rfl rfl (by omega) (by omega)
  simpa [leftI] using this
theorem rank_ex {r : Nat → Int} {n p : Nat} (hp : p < n) : ∃ i, i < n ∧ rank r n i = p := by
  apply Classical.byContradiction
  intro hn
  have h1 := rank_count r n p (by omega)
  have h2 := rank_count r n (p + 1) (by omega)
  have : (List.range n).countP (fun i => decide (rank r n i < p + 1)) = (List.range n).countP (fun i => decide (rank r n i < p)) := by
    refine List.countP_congr fun i hi => ?_
    have hi := List.mem_range.1 hi
    rw [decide_eq_true_eq, decide_eq_true_eq]
    have : rank r n i ≠ p := fun e => hn ⟨i, hi, e⟩
    omega
  omega
def atp (r : Nat → Int) (n p : Nat) : Nat := ((List.range n).find? fun i => rank r n i == p).getD 0
theorem atp_spec {r : Nat → Int} {n p : Nat} (hp : p < n) : atp r n p < n ∧ rank r n (atp r n p) = p := by
  obtain ⟨i, hi, e⟩ := rank_ex (r := r) hp
  unfold atp
  cases hf : (List.range n).find? (fun i => rank r n i == p) with
  | none => exact absurd (show (rank r n i == p) = true by rw [e]; exact beq_self_eq_true p) (List.find?_eq_none.1 hf i (List.mem_range.2 hi))
  | some j =>
    have h1 := List.find?_some hf
    exact ⟨List.mem_range.1 (List.mem_of_find?_eq_some hf), by simpa using h1⟩
theorem atp_iff {r : Nat → Int} {n p i : Nat} (hp : p < n) (hi : i < n) : atp r n p = i ↔ rank r n i = p := by
  have h := atp_spec (r := r) hp
  exact ⟨fun e => e ▸ h.2, fun e => rank_inj h.1 hi (h.2.trans e.symm)⟩
theorem count_first {r : Nat → Int} {n i : Nat} (hi : i < n) : ∀ L, L ≤ n → (List.range L).countP (fun p => decide (atp r n p = i)) = if rank r n i < L then 1 else 0 := by
  intro L
  induction L with
  | zero => intro _; simp
  | succ L ih =>
    intro hL
    rw [List.range_succ, List.countP_append, ih (by omega)]
    simp only [List.countP_cons, List.countP_nil, decide_eq_true_eq]
    have := atp_iff (r := r) (n := n) (p := L) (i := i) (by omega) hi
    by_cases c : rank r n i = L
    · rw [if_neg (by omega), if_pos (this.2 c), if_pos (by omega)]
    rw [if_neg (fun e => c (this.1 e))]
    by_cases c2 : rank r n i < L
    · rw [if_pos c2, if_pos (by omega)]
    rw [if_neg c2, if_neg (by omega)]
theorem inc_l0 {ys : List Int} (hy : ys.length ≤ 200) (d : Nat) : ∀ (j : Nat) (o : List Int), ys.length - j = d → j ≤ ys.length → o.length ≤ 200 → (∀ y ∈ ys, 0 ≤ y ∧ y < (o.length : Int)) → (∀ x ∈ o, 0 ≤ x ∧ x ≤ 1000000000000 + (j : Int)) →
    Ev (fun k => share_Out.l0 k o ys (ys.length : Int) (j : Int)) ((List.range o.length).map (fun i => o.getD i 0 + (((ys.drop j).countP (fun y => decide (y = (i : Int))) : Nat) : Int)), 0) := by
  induction d with
  | zero =>
    intro j o hd hj ho hr hx
    refine Ev.step (fun k => by simp only [share_Out.l0]; rfl) ?_
    refine Ev.neg (by omega) (Ev.ok ?_)
    rw [List.drop_eq_nil_of_le (by omega)]
    simp only [List.countP_nil, Int.natCast_zero, Int.add_zero]
    rw [range_map]
  | succ d ih =>
    intro j o hd hj ho hr hx
    have h : j < ys.length := by omega
    have hyj := hr ys[j] (List.getElem_mem h)
    obtain ⟨q, hq⟩ := Int.eq_ofNat_of_zero_le hyj.1
    have hqo : q < o.length := by omega
    have hoq := hx o[q] (List.getElem_mem hqo)
    refine Ev.step (fun k => by simp only [share_Out.l0]; rfl) ?_
    refine Ev.pos (by omega) (Ev.pos (by omega) (Ev.pos (by omega) ?_))
    rw [rd_nat h, hq]
    refine Ev.pos (by omega) (Ev.pos (by omega) ?_)
    rw [rd_nat hqo, Int.toNat_natCast, wrap_eq (by omega) (by omega), wrap_eq (by omega) (by omega)]
    have := ih (j + 1) (o.set q (o[q] + 1)) (by omega) (by omega) (by simpa using ho) (by simpa using hr) (fun x hx' => by
      rcases List.mem_or_eq_of_mem_set hx' with hx' | rfl
      · have := hx x hx'; omega
      omega)
    rw [drop_cons h]
    refine Ev.eq this ?_
    congr 1
    rw [List.length_set]
    refine List.map_congr_left fun i hi => ?_
    have hi := List.mem_range.1 hi
    rw [List.countP_cons, hq]
    by_cases c : q = i
    · subst c
      simp only [decide_true, if_true]
      simp [List.getD_eq_getElem?_getD, hqo]
      omega
    rw [if_neg (by simp; omega)]
    simp [List.getD_eq_getElem?_getD, c]
theorem getD_map {f : Int → Int} {l : List Int} {i : Nat} (h : i < l.length) : (l.map f).getD i 0 = f (wt l i) := by
  unfold wt; simp [List.getD_eq_getElem?_getD, h]
theorem rank_rests {t s : Int} {l : List Int} {i : Nat} (hi : i < l.length) : rank (fun j => (l.map (rst t s)).getD j 0) l.length i = rank (fun j => rst t s (wt l j)) l.length i := by
  unfold rank
  refine List.countP_congr fun j hj => ?_
  have hj := List.mem_range.1 hj
  rw [bef_iff, bef_iff]
  rw [getD_map hi, getD_map hj]
theorem deal_f {t s : Int} {l : List Int} (h1 : 1 ≤ l.length) (hl : l.length ≤ 200) (ht : 0 ≤ t) (ht2 : t ≤ 1000000000000) (hs : sumI l = s) (hs1 : 1 ≤ s) (hs2 : s ≤ 1000000000000) (h0 : ∀ x ∈ l, 0 ≤ x) :
    Ev (fun k => (share_parts.f k t s l).bind fun b => if b.2.2.2 = 0 then ((share_by_share_Out_1_v22.f (b.1.length : Int) b.2.1).bind fun p => if 0 ≤ b.2.2.1 then (if b.2.2.1 ≤ (p.length : Int) then ((some (p.take (b.2.2.1 : Int).toNat : List Int)).bind fun y => share_Out.l0 k b.1 y (y.length : Int) 0) else none) else none) else some (([] : List Int), b.2.2.2)) (outL t s l, 0) := by
  have hws : ∀ x ∈ l, 0 ≤ x ∧ x ≤ s := fun x hx => ⟨h0 x hx, by rw [← hs]; exact sumI_mem_le h0 hx⟩
  refine Ev.bind (parts_f hl ht ht2 hs1 hs2 hws) (Ev.pos rfl ?_)
  obtain ⟨b0, b1, _⟩ := left_bound (t := t) hs (by omega)
  have hc : l.countP (fun w => decide (0 < rst t s w)) ≤ l.length := List.countP_le_length
  obtain ⟨L, hL⟩ := Int.eq_ofNat_of_zero_le b0
  have hby : share_by_share_Out_1_v22.f ((l.map (prt t s)).length : Int) (l.map (rst t s)) = some ((List.range l.length).map fun p => ((atp (fun j => (l.map (rst t s)).getD j 0) l.length p : Nat) : Int)) := by
    unfold share_by_share_Out_1_v22.f
    rw [if_pos ⟨by simp, by rw [List.length_map]; omega, by rw [List.length_map]; omega⟩]
    unfold byList atp
    rw [List.length_map]
  refine Q.Ev.bindc hby ?_
  dsimp only
  rw [hL]
  refine Ev.pos (by omega) (Ev.pos (by simp; omega) (Q.Ev.bindc rfl ?_))
  rw [Int.toNat_natCast, ← List.map_take, List.take_range, Nat.min_eq_left (by omega)]
  have := inc_l0 (ys := (List.range L).map fun p => ((atp (fun j => (l.map (rst t s)).getD j 0) l.length p : Nat) : Int)) (by simp; omega) L 0 (l.map (prt t s)) (by simp) (by omega) (by simpa using hl) (fun y hy => by
    obtain ⟨p, hp, rfl⟩ := List.mem_map.1 hy
    have := (atp_spec (r := fun j => (l.map (rst t s)).getD j 0) (n := l.length) (p := p) (by have := List.mem_range.1 hp; omega)).1
    refine ⟨by omega, ?_⟩
    rw [List.length_map]; omega) (fun x hx => by
    obtain ⟨w, hw, rfl⟩ := List.mem_map.1 hx
    have := prt_ok ht ht2 hs1 (hws w hw).1 (hws w hw).2
    omega)
  rw [Int.natCast_zero] at this
  refine Ev.eq this ?_
  congr 1
  rw [List.length_map]
  unfold outL
  refine List.map_congr_left fun i hi => ?_
  have hi := List.mem_range.1 hi
  unfold outAt
  rw [getD_map hi, List.drop_zero, List.countP_map]
  congr 1
  have e : (List.range L).countP ((fun y => decide (y = (i : Int))) ∘ fun p => ((atp (fun j => (l.map (rst t s)).getD j 0) l.length p : Nat) : Int)) = (List.range L).countP (fun p => decide (atp (fun j => (l.map (rst t s)).getD j 0) l.length p = i)) := by
    refine List.countP_congr fun p _ => ?_
    simp only [Function.comp, decide_eq_true_eq]
    omega
  rw [e, count_first hi L (by omega), rank_rests hi, hL]
  by_cases c : rank (fun j => rst t s (wt l j)) l.length i < L
  · rw [if_pos c, if_pos (by omega)]; rfl
  rw [if_neg c, if_neg (by omega)]; rfl
def outS (t : Int) (l : List Int) : List Int × Int := if (wholeS l).2 = 0 then (if t < 0 ∨ 1000000000000 < t then ([], 8) else (outL t (wholeS l).1 (eff l), 0)) else ([], (wholeS l).2)
theorem out_f {t : Int} {l : List Int} (hl : l.length < 9223372036854775807) : Ev (fun k => share_Out.f k t l) (outS t l) := by
  unfold share_Out.f outS
  refine Ev.bind (whole_f hl) ?_
  by_cases hw : (wholeS l).2 = 0
  · rw [if_pos hw]
    refine Ev.pos hw ?_
    obtain ⟨h1, h2, h0, h3, h4, h5, h6, h7⟩ := whole_ok hw
    by_cases ht : t < 0
    · rw [if_pos (.inl ht)]; exact Ev.pos ht (Ev.const rfl)
    refine Ev.neg ht (Q.Ev.bindc (in_f t) ?_)
    by_cases ht2 : 1000000000000 < t
    · rw [if_pos (.inr ht2)]
      exact Ev.neg (by rw [decide_eq_true_eq]; unfold amt; omega) (Ev.const rfl)
    rw [if_neg (by omega)]
    refine Ev.pos (decide_eq_true (by unfold amt; omega)) ?_
    obtain ⟨m, hm, hm0⟩ := max_f h1 hl h0
    refine Ev.bind hm ?_
    by_cases c : sumI l = 0
    · refine Ev.pos (hm0.2 c) (Ev.bind (even_f (by omega)) ?_)
      have e : eff l = List.replicate l.length 1 := by unfold eff; rw [if_pos c]
      rw [e] at h6 h7 ⊢
      exact deal_f (by simpa using h1) (by simpa using h2) (by omega) (by omega) h6 h4 h5 h7
    refine Ev.neg (fun e => c (hm0.1 e)) ?_
    have e : eff l = l := by unfold eff; rw [if_neg c]
    rw [e] at h6 h7 ⊢
    exact deal_f h1 h2 (by omega) (by omega) h6 h4 h5 h7
  rw [if_neg hw]
  exact Ev.neg hw (Ev.ok rfl)
end Go.Proofs.Ytefhljhpcpajgaa.Q
set_option linter.unusedVariables false
set_option linter.unusedSimpArgs false
namespace Go.Proofs.Ytefhljhpcpajgaa.Q
open Go.RowKit Go.Proofs.Ytefhljhpcpajgaa.F Go.Proofs.YtefhljhpcpajgaaW.PrintWords Go.Proofs.YtefhljhpcpajgaaW.PrintLast Go.Proofs.YtefhljhpcpajgaaW.PrintMore
section
variable {t s : Int} {w : List Int}
end
def evenS (t n : Int) : List Int × Int := if n < 1 ∨ 200 < n then ([], 2) else outS t (List.replicate n.toNat 1)
theorem evenly_f (t n : Int) : Ev (fun k => share_Evenly.f k t n) (evenS t n) := by
  unfold share_Evenly.f evenS
  by_cases h1 : n < 1
  · rw [if_pos (.inl h1)]
    refine Ev.pos h1 ?_
    refine Ev.step (fun k => by simp only [share_Evenly.j0]; rfl) ?_
    exact Ev.pos (by simp) (Ev.const rfl)
  refine Ev.neg h1 ?_
  refine Ev.step (fun k => by simp only [share_Evenly.j0]; rfl) ?_
  by_cases h2 : 200 < n
  · rw [if_pos (.inr h2)]
    exact Ev.pos (decide_eq_true h2) (Ev.const rfl)
  rw [if_neg (by omega)]
  refine Ev.neg (by simp; omega) ?_
  obtain ⟨m, rfl⟩ := Int.eq_ofNat_of_zero_le (show 0 ≤ n by omega)
  rw [Int.toNat_natCast]
  exact Ev.bind (even_f (by omega)) (Ev.bind (out_f (by simp; omega)) (Ev.ok rfl))
end Go.Proofs.Ytefhljhpcpajgaa.Q
set_option linter.unusedVariables false
namespace Go.Proofs.Ytefhljhpcpajgaa.Q
open Go.RowKit Go.Proofs.YtefhljhpcpajgaaW.PrintWords Go.Proofs.YtefhljhpcpajgaaW.PrintLast Go.Proofs.YtefhljhpcpajgaaW.PrintMore
theorem data_append (a b : ByteArray) : (a ++ b).data.toList = a.data.toList ++ b.data.toList := by simp [ByteArray.data_append]
def wide (w : Int) : Prop := w = 1 ∨ w = 2 ∨ w = 4 ∨ w = 8
instance (w : Int) : Decidable (wide w) := by unfold wide; infer_instance
end Go.Proofs.Ytefhljhpcpajgaa.Q
set_option linter.unusedVariables false
namespace Go.Proofs.Ytefhljhpcpajgaa.Q
open Go.RowKit Go.Proofs.YtefhljhpcpajgaaX Go.Proofs.YtefhljhpcpajgaaW.PrintWords Go.Proofs.YtefhljhpcpajgaaW.PrintLast Go.Proofs.YtefhljhpcpajgaaW.PrintMore
def serB (l : List UInt8) : Prop := 1 ≤ l.length ∧ l.length ≤ 16 ∧ l.getLast? ≠ some 45 ∧ okL 3 (runes l) = true
instance (l : List UInt8) : Decidable (serB l) := by unfold serB; infer_instance
theorem checkS_or (s : ByteArray) : checkS s = 0 ∨ checkS s = 9 := by unfold checkS; split <;> simp
def lt8 (a b : ByteArray) : Prop := Op.bytesLess a.toList b.toList = true
instance (a b : ByteArray) : Decidable (lt8 a b) := by unfold lt8; infer_instance
def notUp : Option ByteArray → ByteArray → Bool
  | none, _ => false
  | some q, s => !(Op.bytesLess q.toList s.toList)
def rowG : Option ByteArray → List ByteArray → Int
  | _, [] => 0
  | p, s :: l => if checkS s = 0 then (if notUp p s = true then 32 else rowG (some s) l) else 9
end Go.Proofs.Ytefhljhpcpajgaa.Q
set_option linter.unusedVariables false
namespace Go.Proofs.Ytefhljhpcpajgaa.Q
open Go.RowKit Go.Proofs.Ytefhljhpcpajgaa.F Go.Proofs.YtefhljhpcpajgaaX Go.Proofs.YtefhljhpcpajgaaW.PrintWords Go.Proofs.YtefhljhpcpajgaaW.PrintLast Go.Proofs.YtefhljhpcpajgaaW.PrintMore
theorem serial_check_f (s : ByteArray) (hs : s.size < 9223372036854775807) : serial_Check.f s = some (checkS s) := by
  unfold serial_Check.f serial_Fold.f checkS
  rw [if_pos hs, Option.bind_some]
  have e : (foldS s).1.toList = s.toList ↔ (foldS s).1 = s := by
    constructor
    · intro h
      rw [ByteArray.toList_eq, ByteArray.toList_eq] at h
      generalize (foldS s).1 = a at *
      cases a; cases s
      simpa [Array.toList_inj] using h
    intro h; rw [h]
  by_cases h1 : (foldS s).2 = 0
  · rw [if_pos h1]
    by_cases h2 : (foldS s).1.toList = s.toList
    · rw [if_pos h2, if_pos ⟨h1, e.1 h2⟩]
    rw [if_neg h2, if_neg (fun x => h2 (e.2 x.2))]
  rw [if_neg h1, if_neg (fun x => h1 x.1)]
end Go.Proofs.Ytefhljhpcpajgaa.Q
set_option linter.unusedVariables false
namespace Go.Proofs.YtefhljhpcpajgaaX
open Go.RowKit Go.WideMaps
def memB (S : List ByteArray) (s : ByteArray) : Bool := S.any fun x => decide (x = s)
theorem memB_iff {S : List ByteArray} {s : ByteArray} : memB S s = true ↔ s ∈ S := by
  unfold memB
  rw [List.any_eq_true]
  exact ⟨fun ⟨x, h, e⟩ => (of_decide_eq_true e) ▸ h, fun h => ⟨s, h, decide_eq_true rfl⟩⟩
def Seen (P : Program) (k e : TypeId) (w : World) (b : Nat) (S : List ByteArray) : Prop :=
  ∃ (n : Nat) (D : DataW Unit), w.ownsMap P k (plainElem P e) b n D ∧ n ≤ S.length ∧ Maps.IsMap D ∧ ∀ s : ByteArray, s.size ≤ maxLen → D.atKey (.string s.data.toList) (.lit (.bool false)) = .lit (.bool (memB S s))
section
variable {P : Program} {k e t : TypeId} {w w' : World} {b : Nat} {S : List ByteArray}
theorem Seen.grown (h : Seen P k e w b S) {row : Option Nat} (hg : w.grownBy w' row) (hne : some b ≠ row) : Seen P k e w' b S := by
  obtain ⟨n, D, h1, h2, h3, h4⟩ := h
  exact ⟨n, D, h1.kept hg hne, h2, h3, h4⟩
theorem Seen.below (h : Seen P k e w b S) (hb : Below w.heap.size w w') : Seen P k e w' b S :=
  h.grown (row := none) ⟨hb.os, hb.tape, hb.output, hb.size, fun k hk _ => hb.block k hk⟩ (by simp)
theorem Seen.set (h : Seen P k e w b S) {p : Addr} (hne : b ≠ p.block) (u : Value) : Seen P k e (w.setCell p u) b S :=
  h.grown (row := some p.block) ⟨rfl, rfl, rfl, by simp, fun k _ hk => Below.heap_setCell w p u k (fun e => hk (by rw [e]))⟩ (fun e => hne (by injection e))
theorem Seen.put (h : Seen P k e w b S) (hk : P.underlying k = some .string) (ht : P.underlying t = some (.map k e)) (he : P.underlying e = some .bool) (hn : S.length < maxLen) {s : ByteArray} (hs : s.size ≤ maxLen) :
    ∃ w', (Instr.mapUpdate t (.map (some b)) (.string s) (.bool true)).run P w = .ok () w' ∧ Seen P k e w' b (S ++ [s]) ∧ w.grownBy w' (some b) := by
  obtain ⟨n, D, h1, h2, h3, h4⟩ := h
  obtain ⟨w', hrun, r1, r2⟩ := h1.update (Maps.string_keyed hk) ht (Nat.lt_of_le_of_lt h2 hn) (keyOf_string_mk hk hs) (plainElem_bool he true)
  refine ⟨w', hrun, ⟨n + 1, _, r1, by rw [List.length_append]; simp; omega, ?_, fun s' hs' => ?_⟩, r2⟩
  · obtain ⟨es, rfl⟩ := h3
    exact ⟨_, rfl⟩
  by_cases e : s' = s
  · subst e
    rw [Maps.atKey_put_same h3 (by trivial)]
    have h1 : memB (S ++ [s']) s' = true := memB_iff.2 (by simp)
    rw [h1]
  rw [Maps.atKey_put_other (by intro h; injection h with h; exact e (by cases s'; cases s; congr 1; exact Array.toList_inj.1 h)), h4 s' hs']
  have h1 : memB (S ++ [s]) s' = memB S s' := by
    rw [Bool.eq_iff_iff, memB_iff, memB_iff, List.mem_append, List.mem_singleton]
    exact ⟨fun h => h.resolve_right e, .inl⟩
  rw [h1]
end
end Go.Proofs.YtefhljhpcpajgaaX
set_option linter.unusedVariables false
namespace Go.Proofs.Ytefhljhpcpajgaa.Q
open Go.RowKit Go.Proofs.Ytefhljhpcpajgaa.F Go.Proofs.YtefhljhpcpajgaaX Go.Proofs.YtefhljhpcpajgaaW.PrintWords Go.Proofs.YtefhljhpcpajgaaW.PrintLast Go.Proofs.YtefhljhpcpajgaaW.PrintMore
theorem serial_row_l0 {l : List ByteArray} (hl : l.length < 4611686018427387904) (hs : ∀ x ∈ l, x.size < 1099511627776) (d : Nat) : ∀ (i : Nat), l.length - i = d → i ≤ l.length → Ev (fun k => serial_Row.l0 k l l (l.length : Int) (i : Int)) (rowG (if i = 0 then none else l[i - 1]?) (l.drop i)) := by
  induction d with
  | zero =>
    intro i hd hi
    refine Ev.step (fun k => by simp only [serial_Row.l0]; rfl) ?_
    refine Ev.neg (by omega) (Ev.ok ?_)
    rw [List.drop_eq_nil_of_le (by omega)]; rfl
  | succ d ih =>
    intro i hd hi
    have h : i < l.length := by omega
    refine Ev.step (fun k => by simp only [serial_Row.l0]; rfl) ?_
    refine Ev.pos (by omega) (Ev.pos (by omega) (Ev.pos (by omega) ?_))
    rw [drop_cons h, rdOf_nat h, wrap_eq (x := (i : Int) + 1) (by omega) (by omega)]
    have ih' := ih (i + 1) (by omega) (by omega)
    rw [if_neg (by omega), Nat.add_sub_cancel, List.getElem?_eq_getElem h] at ih'
    refine Ev.bindc (serial_check_f _ (by have := hs _ (List.getElem_mem h); omega)) ?_
    simp only [rowG]
    refine Ev.ite (fun h1 => ?_) (fun h1 => ?_)
    · rw [if_pos h1]
      refine Ev.ite (fun h2 => ?_) (fun h2 => ?_)
      · have h' : i - 1 < l.length := by omega
        rw [wrap_eq (x := (i : Int) - 1) (by omega) (by omega), show (i : Int) - 1 = ((i - 1 : Nat) : Int) by omega, rdOf_nat h', if_neg (show ¬ i = 0 by omega), List.getElem?_eq_getElem h']
        refine Ev.pos (by omega) (Ev.pos (by omega) ?_)
        refine Ev.ite (fun h3 => ?_) (fun h3 => ?_)
        · rw [if_neg (by simp [notUp, h3])]; exact ih'
        rw [if_pos (by simp [notUp, h3])]; exact Ev.ok rfl
      rw [if_pos (show i = 0 by omega), if_neg (by simp [notUp])]; exact ih'
    rw [if_neg h1, (checkS_or _).resolve_left h1]; exact Ev.ok rfl
theorem serial_row_f {l : List ByteArray} (hl : l.length < 4611686018427387904) (hs : ∀ x ∈ l, x.size < 1099511627776) : Ev (fun k => serial_Row.f k l) (rowG none l) := by
  unfold serial_Row.f
  exact serial_row_l0 hl hs l.length 0 (by omega) (by omega)
abbrev LnT := S71
theorem rdL {l : List LnT} {i : Nat} (h : i < l.length) : rd_T71 l (i : Int) = l[i] := by
  unfold rd_T71; simp [h]
def fewR (s : List ByteArray) : Bool := s.all fun x => decide (x.size ≤ 100)
def fewB (l : List LnT) : Bool := l.all fun x => decide (x.f4.length ≤ 40) && fewR x.f4
def fewP (l : List LnT) : Prop := l.length ≤ 20 ∧ ∀ x ∈ l, x.f4.length ≤ 40 ∧ ∀ s ∈ x.f4, s.size ≤ 100
theorem fewB_iff {l : List LnT} : fewB l = true ↔ ∀ x ∈ l, x.f4.length ≤ 40 ∧ ∀ s ∈ x.f4, s.size ≤ 100 := by
  unfold fewB fewR
  simp only [List.all_eq_true, Bool.and_eq_true, decide_eq_true_eq]
theorem few_l1 {l : List LnT} {i : Nat} {r : Bool} (hl : l.length ≤ 20) (hi : i < l.length) (h40 : l[i].f4.length ≤ 40) (hr : Ev (fun k => backhaullaw21_Few.l0 k l ((i + 1 : Nat) : Int)) r) (d : Nat) : ∀ (j : Nat), l[i].f4.length - j = d → j ≤ l[i].f4.length → Ev (fun k => backhaullaw21_Few.l1 k l (i : Int) (j : Int)) (fewR (l[i].f4.drop j) && r) := by
  induction d with
  | zero =>
    intro j hd hj
    refine Ev.step (fun k => by simp only [backhaullaw21_Few.l1]; rfl) (Ev.pos (by omega) (Ev.pos (by omega) ?_))
    rw [rdL hi, List.drop_eq_nil_of_le (by omega), wrap_eq (x := (i : Int) + 1) (by omega) (by omega)]
    exact Ev.neg (by omega) hr
  | succ d ih =>
    intro j hd hj
    have h : j < l[i].f4.length := by omega
    refine Ev.step (fun k => by simp only [backhaullaw21_Few.l1]; rfl) (Ev.pos (by omega) (Ev.pos (by omega) ?_))
    rw [rdL hi, rdOf_nat h, wrap_eq (x := (j : Int) + 1) (by omega) (by omega), drop_cons h]
    refine Ev.pos (by omega) (Ev.pos (by omega) (Ev.ite (fun h1 => Ev.ok ?_) (fun h1 => Ev.eq (ih (j + 1) (by omega) (by omega)) ?_)))
    · unfold fewR; rw [List.all_cons, decide_eq_false (by omega)]; rfl
    unfold fewR; rw [List.all_cons, decide_eq_true (by omega)]; rfl
theorem few_l0 {l : List LnT} (hl : l.length ≤ 20) (d : Nat) : ∀ (i : Nat), l.length - i = d → i ≤ l.length → Ev (fun k => backhaullaw21_Few.l0 k l (i : Int)) (fewB (l.drop i)) := by
  induction d with
  | zero =>
    intro i hd hi
    refine Ev.step (fun k => by simp only [backhaullaw21_Few.l0]; rfl) (Ev.neg (by omega) (Ev.ok ?_))
    rw [List.drop_eq_nil_of_le (by omega)]; rfl
  | succ d ih =>
    intro i hd hi
    have h : i < l.length := by omega
    refine Ev.step (fun k => by simp only [backhaullaw21_Few.l0]; rfl) (Ev.pos (by omega) (Ev.pos (by omega) ?_))
    rw [rdL h, drop_cons h]
    refine Ev.ite (fun h1 => Ev.ok ?_) (fun h1 => Ev.eq (few_l1 hl h (by omega) (ih (i + 1) (by omega) (by omega)) l[i].f4.length 0 (by omega) (by omega)) ?_)
    · unfold fewB; rw [List.all_cons, decide_eq_false (by omega)]; rfl
    unfold fewB; rw [List.all_cons, decide_eq_true (by omega), List.drop_zero]; rfl
theorem few_f (l : List LnT) : Ev (fun k => backhaullaw21_Few.f k l) (decide (l.length ≤ 20) && fewB l) := by
  unfold backhaullaw21_Few.f
  refine Ev.ite (fun h => Ev.ok (by rw [decide_eq_false (by omega)]; rfl)) (fun h => ?_)
  rw [decide_eq_true (by omega)]
  exact few_l0 (by omega) l.length 0 (by omega) (by omega)
theorem few_p {l : List LnT} (h : (decide (l.length ≤ 20) && fewB l) = true) : fewP l := by
  rw [Bool.and_eq_true, decide_eq_true_eq] at h
  exact ⟨h.1, fewB_iff.1 h.2⟩
def mayB (b c d : Int) : Bool := decide (0 ≤ b ∧ b ≤ 1000000000000 ∧ 0 ≤ c ∧ c ≤ b ∧ 0 ≤ d ∧ d ≤ 1000000000000 ∧ c + d ≤ 1000000000000)
def lineR (a b c d : Int) (s : List ByteArray) : Int := if a < 1 ∨ a > 999999 then 2 else if mayB b c d = true then (if s.length < 1 ∨ s.length > 20 then 9 else if rowG none s = 0 then 0 else 9) else 8
theorem in_f3 (a : Int) : cents_In.f a = some (decide (-1000000000000 ≤ a ∧ a ≤ 1000000000000)) := by
  unfold cents_In.f
  by_cases h : a ≥ -1000000000000
  · rw [if_pos h]; congr 1; exact decide_eq_decide.2 ⟨fun x => ⟨h, x⟩, fun x => x.2⟩
  rw [if_neg h]; congr 1; exact (decide_eq_false (fun x => h x.1)).symm
theorem paid_f3 (a : Int) : line_paid.f a = some (decide (0 ≤ a ∧ a ≤ 1000000000000)) := by
  unfold line_paid.f
  by_cases h : a ≥ 0
  · rw [if_pos h, in_f3, Option.bind_some]; congr 1; exact decide_eq_decide.2 ⟨fun x => ⟨h, x.2⟩, fun x => ⟨by omega, x.2⟩⟩
  rw [if_neg h]; congr 1; exact (decide_eq_false (fun x => h x.1)).symm
theorem price_f (a b c d : Int) (s : List ByteArray) : line_price_may.f a b c d s = some (mayB b c d) := by
  unfold line_price_may.f mayB
  rw [paid_f3, paid_f3, paid_f3]
  simp only [Option.bind_some, decide_eq_true_eq]
  by_cases h1 : 0 ≤ b ∧ b ≤ 1000000000000
  · by_cases h2 : 0 ≤ c ∧ c ≤ 1000000000000
    · by_cases h3 : 0 ≤ d ∧ d ≤ 1000000000000
      · by_cases h4 : c ≤ b
        · rw [if_pos h1, if_pos h2, if_pos h3, if_pos h4, in_f3, Option.bind_some, wrap_eq (by omega) (by omega)]
          congr 1; exact decide_eq_decide.2 (by omega)
        rw [if_pos h1, if_pos h2, if_pos h3, if_neg h4]; congr 1; exact (decide_eq_false (by omega)).symm
      rw [if_pos h1, if_pos h2, if_neg h3]; congr 1; exact (decide_eq_false (by omega)).symm
    rw [if_pos h1, if_neg h2]; congr 1; exact (decide_eq_false (by omega)).symm
  rw [if_neg h1]; congr 1; exact (decide_eq_false (by omega)).symm
theorem line_check_f {a b c d : Int} {s : List ByteArray} (hs : s.length ≤ 40) (hz : ∀ x ∈ s, x.size ≤ 100) : Ev (fun k => line_Check.f k a b c d s) (lineR a b c d s) := by
  unfold line_Check.f
  have key : ∀ t : Bool, (t = true ↔ (a < 1 ∨ a > 999999)) → Ev (fun k => line_Check.j0 k t a b c d s a b c d s) (lineR a b c d s) := by
    intro t ht
    unfold lineR
    refine Ev.step (fun k => by simp only [line_Check.j0]; rfl) (Ev.ite (fun h => Ev.ok (by rw [if_pos (ht.1 h)])) (fun h => ?_))
    rw [if_neg (fun g => h (ht.2 g))]
    refine Ev.bindc (price_f a b c d s) (Ev.ite (fun h1 => ?_) (fun h1 => Ev.ok (by rw [if_neg h1])))
    rw [if_pos h1]
    refine Ev.ite (fun h2 => Ev.ok (by rw [if_pos (by omega)])) (fun h2 => Ev.ite (fun h3 => Ev.ok (by rw [if_pos (by omega)])) (fun h3 => ?_))
    rw [if_neg (by omega)]
    refine Ev.bind (serial_row_f (by omega) (fun x hx => by have := hz x hx; omega)) (Ev.ite (fun h4 => Ev.ok (by rw [if_pos h4])) (fun h4 => Ev.ok (by rw [if_neg h4])))
  refine Ev.ite (fun h => key true (by simp [h])) (fun h => key _ (by simp; omega))
theorem w12 : wrap64 (1 + 1) = 2 := by rw [wrap_eq (by decide) (by decide)]; rfl
theorem w23 : wrap64 (2 + 1) = 3 := by rw [wrap_eq (by decide) (by decide)]; rfl
end Go.Proofs.Ytefhljhpcpajgaa.Q
set_option linter.unusedVariables false
set_option linter.unusedSimpArgs false
namespace Go.Proofs.Ytefhljhpcpajgaa.Q
open Go.RowKit Go.Proofs.Ytefhljhpcpajgaa.F Go.Proofs.YtefhljhpcpajgaaX Go.Proofs.YtefhljhpcpajgaaW.PrintWords Go.Proofs.YtefhljhpcpajgaaW.PrintLast Go.Proofs.YtefhljhpcpajgaaW.PrintMore
def fewX (s : List ByteArray) : Prop := s.length ≤ 40 ∧ ∀ x ∈ s, x.size ≤ 100
theorem fewX_of {l : List LnT} (h : fewP l) {x : LnT} (hx : x ∈ l) : fewX x.f4 := h.2 x hx
theorem lineR_ok {a b c d : Int} {s : List ByteArray} (h : lineR a b c d s = 0) : 1 ≤ a ∧ a ≤ 999999 ∧ 0 ≤ b ∧ b ≤ 1000000000000 ∧ 0 ≤ c ∧ c ≤ b ∧ 0 ≤ d ∧ d ≤ 1000000000000 ∧ c + d ≤ 1000000000000 ∧ 1 ≤ s.length ∧ s.length ≤ 20 := by
  unfold lineR at h
  split at h
  · cases h
  split at h
  · rename_i g
    have := of_decide_eq_true g
    split at h
    · cases h
    omega
  cases h
theorem add_two {p q : Int} (hp : 0 ≤ p) (hq : 0 ≤ q) : sumS 0 [p, q] = if 1000000000000 < p + q then (0, 8) else (p + q, 0) := by
  rw [sumS_nonneg (by omega) (by omega) (fun x hx => by simp at hx; rcases hx with rfl | rfl <;> assumption)]
  simp [sumI]
def paidS (a b c d : Int) (s : List ByteArray) : Int × Int := if lineR a b c d s = 0 then (c + d, 0) else (0, lineR a b c d s)
theorem paid_f {a b c d : Int} {s : List ByteArray} (h : fewX s) : Ev (fun k => line_Paid.f k a b c d s) (paidS a b c d s) := by
  unfold line_Paid.f paidS
  refine Ev.bind (line_check_f h.1 h.2) (Q.Ev.ite (fun e => ?_) (fun e => Ev.ok (by rw [if_neg e])))
  have := lineR_ok e
  rw [if_pos e]
  refine Ev.bind (cents_Add_f (by simp)) (Ev.ok ?_)
  rw [add_two (by omega) (by omega), if_neg (by omega)]
def evenL (t : Int) (n : Nat) : List Int := outL t (n : Int) (List.replicate n 1)
theorem evenL_len (t : Int) (n : Nat) : (evenL t n).length = n := by unfold evenL outL; simp
theorem whole_ones {n : Nat} (h1 : 1 ≤ n) (h2 : n ≤ 200) : wholeS (List.replicate n 1) = ((n : Int), 0) := by
  unfold wholeS
  rw [if_neg (by simp; omega), if_neg (by rw [negs_false.2 (fun x hx => by rw [(List.mem_replicate.1 hx).2]; omega)]; decide), sumI_ones, if_neg (by omega), if_neg (by omega)]
theorem even_at {t : Int} {n : Nat} (ht : 0 ≤ t) (ht2 : t ≤ 1000000000000) (h1 : 1 ≤ n) (h2 : n ≤ 200) : evenS t (n : Int) = (evenL t n, 0) := by
  have e1 : eff (List.replicate n 1) = List.replicate n 1 := by unfold eff; rw [if_neg (by rw [sumI_ones]; omega)]
  unfold evenS outS evenL
  rw [if_neg (by omega), Int.toNat_natCast, whole_ones h1 h2, if_pos rfl, if_neg (by omega), e1]
def unitS (a b c d : Int) (s : List ByteArray) (i : Int) : Int × Int × Int := if lineR a b c d s = 0 then (if i < 0 ∨ (s.length : Int) ≤ i then (0, 0, 2) else ((evenL c s.length).getD i.toNat 0, (evenL d s.length).getD i.toNat 0, 0)) else (0, 0, lineR a b c d s)
theorem rd_getD (l : List Int) (i : Int) : rd l i = l.getD i.toNat 0 := rfl
theorem part_f {t i : Int} {n : Nat} (ht : 0 ≤ t) (ht2 : t ≤ 1000000000000) (h1 : 1 ≤ n) (h2 : n ≤ 200) (hi : 0 ≤ i) (hi2 : i < (n : Int)) (e : Int) : Ev (fun k => line_Unit_1_v3_v24_v3.f k t (n : Int) e i) ((evenL t n).getD i.toNat 0) := by
  unfold line_Unit_1_v3_v24_v3.f
  refine Ev.bind (evenly_f t n) ?_
  rw [even_at ht ht2 h1 h2]
  exact Ev.pos rfl (Ev.pos hi (Ev.pos (by rw [evenL_len]; exact hi2) (Ev.ok (rd_getD _ _))))
theorem unit_f {a b c d : Int} {s : List ByteArray} (h : fewX s) (i : Int) : Ev (fun k => line_Unit.f k a b c d s i) (unitS a b c d s i) := by
  unfold line_Unit.f unitS
  refine Ev.bind (line_check_f h.1 h.2) (Q.Ev.ite (fun e => ?_) (fun e => Ev.ok (by rw [if_neg e])))
  have ho := lineR_ok e
  rw [if_pos e]
  have j0 : ∀ t : Bool, (t = true ↔ (i < 0 ∨ (s.length : Int) ≤ i)) → Ev (fun k => line_Unit.j0 k t a b c d s i 0 (s.length : Int)) (if i < 0 ∨ (s.length : Int) ≤ i then (0, 0, 2) else ((evenL c s.length).getD i.toNat 0, (evenL d s.length).getD i.toNat 0, 0)) := by
    intro t ht
    refine Ev.step (fun k => by simp only [line_Unit.j0]; rfl) (Q.Ev.ite (fun g => Ev.ok (by rw [if_pos (ht.1 g)])) (fun g => ?_))
    have hn : ¬ (i < 0 ∨ (s.length : Int) ≤ i) := fun q => g (ht.2 q)
    rw [if_neg hn]
    exact Ev.bind (part_f (by omega) (by omega) (by omega) (by omega) (by omega) (by omega) 0) (Ev.bind (part_f (by omega) (by omega) (by omega) (by omega) (by omega) (by omega) 0) (Ev.ok rfl))
  exact Q.Ev.ite (fun g => j0 true (by simp [g])) (fun g => j0 _ (by simp; omega))
end Go.Proofs.Ytefhljhpcpajgaa.Q
set_option linter.unusedVariables false
namespace Go.Proofs.Ytefhljhpcpajgaa.Q
open Go.RowKit Go.Proofs.Ytefhljhpcpajgaa.F Go.Proofs.YtefhljhpcpajgaaW.PrintWords Go.Proofs.YtefhljhpcpajgaaW.PrintLast Go.Proofs.YtefhljhpcpajgaaW.PrintMore
def feeR (a b : Int) : Int := (2 * a * b + 10000) / 20000
def ofS (a b : Int) : Int × Int := if b < 0 ∨ b > 10000 then (0, 2) else if a < 0 ∨ a > 1000000000000 then (0, 8) else (feeR a b, 0)
def lessS (a b : Int) : Int × Int := if (ofS a b).2 = 0 then (a - (ofS a b).1, 0) else (0, (ofS a b).2)
theorem feeR_bounds {a b : Int} (ha : 0 ≤ a) (hb : 0 ≤ b) (hb' : b ≤ 10000) : 0 ≤ feeR a b ∧ feeR a b ≤ a := by
  unfold feeR
  have h0 : 0 ≤ a * b := Int.mul_nonneg ha hb
  have h1 : a * b ≤ a * 10000 := Int.mul_le_mul_of_nonneg_left hb' ha
  rw [Int.mul_assoc]
  omega
theorem halfS_fee {a b : Int} (ha : 0 ≤ a) (ha' : a ≤ 1000000000000) (hb : 0 ≤ b) (hb' : b ≤ 10000) : halfS a b 10000 = (feeR a b, 0) := by
  have hf := feeR_bounds ha hb hb'
  have hr : feeR a b = if a * b % 10000 ≥ 10000 - a * b % 10000 then a * b / 10000 + 1 else a * b / 10000 := by
    unfold feeR
    rw [Int.mul_assoc]
    split <;> omega
  unfold halfS
  rw [if_neg (by decide), if_pos (show may a b 10000 by unfold may; omega)]
  by_cases h : a * b % 10000 ≥ 10000 - a * b % 10000
  · rw [if_pos h] at hr ⊢
    unfold toldS
    rw [← hr, if_pos (show amt (feeR a b) by unfold amt; omega)]
  rw [if_neg h] at hr ⊢
  unfold toldS
  rw [← hr, if_pos (show amt (feeR a b) by unfold amt; omega)]
theorem fee_may_f (b : Int) : fee_may.f b = some (decide (0 ≤ b ∧ b ≤ 10000)) := by
  unfold fee_may.f
  by_cases h : b ≥ 0
  · rw [if_pos h]; congr 1; exact decide_eq_decide.2 ⟨fun x => ⟨h, x⟩, fun x => x.2⟩
  rw [if_neg h]; congr 1; exact (decide_eq_false (fun x => h x.1)).symm
theorem fee_of_f (a b : Int) : Ev (fun k => fee_Of.f k a b) (ofS a b) := by
  unfold fee_Of.f ofS
  refine Ev.bindc (fee_may_f b) ?_
  by_cases hb : b < 0 ∨ b > 10000
  · rw [if_pos hb]
    exact Ev.neg (by simp; omega) (Ev.ok rfl)
  rw [if_neg hb]
  refine Ev.pos (decide_eq_true (by omega)) ?_
  refine Ev.ite (fun h => Ev.ok (by rw [if_pos (.inl h)])) (fun h => ?_)
  refine Ev.bindc (in_f a) ?_
  by_cases ha : a < 0 ∨ a > 1000000000000
  · rw [if_pos ha]
    exact Ev.neg (fun x => by have := of_decide_eq_true x; unfold amt at this; omega) (Ev.ok rfl)
  rw [if_neg ha]
  refine Ev.pos (decide_eq_true (by unfold amt; omega)) ?_
  have := half_f (a := a) (b := b) (c := 10000) (by decide) (by decide)
  rw [halfS_fee (by omega) (by omega) (by omega) (by omega)] at this
  exact Ev.bind this (Ev.ok rfl)
theorem fee_paid_less_f (a b : Int) : Ev (fun k => fee_paid_less.f k a b) (lessS a b) := by
  unfold fee_paid_less.f
  refine Ev.bind (fee_of_f a b) ?_
  unfold lessS
  refine Ev.ite (fun h => ?_) (fun h => Ev.ok (by rw [if_neg h]))
  rw [if_pos h]
  refine Ev.bindc (sub_f _ _) (Ev.ok ?_)
  unfold ofS at h ⊢
  by_cases hb : b < 0 ∨ b > 10000
  · rw [if_pos hb] at h; simp at h
  by_cases ha : a < 0 ∨ a > 1000000000000
  · rw [if_neg hb, if_pos ha] at h; simp at h
  rw [if_neg hb, if_neg ha]
  have hf := feeR_bounds (a := a) (b := b) (by omega) (by omega) (by omega)
  unfold subS
  rw [if_pos (show amt a ∧ amt (feeR a b) ∧ amt (a - feeR a b) by unfold amt; omega)]
theorem fee_less_f (a b : Int) : Ev (fun k => fee_Less.f k a b) (lessS a b) := by
  unfold fee_Less.f
  exact Ev.bind (fee_paid_less_f a b) (Ev.ok rfl)
end Go.Proofs.Ytefhljhpcpajgaa.Q
set_option linter.unusedVariables false
namespace Go.Proofs.Ytefhljhpcpajgaa.Q
open Go.RowKit Go.Proofs.Ytefhljhpcpajgaa.F Go.Proofs.YtefhljhpcpajgaaW.PrintWords Go.Proofs.YtefhljhpcpajgaaW.PrintLast Go.Proofs.YtefhljhpcpajgaaW.PrintMore
def chainS : Int → List Int → Int
  | _, [] => 0
  | last, x :: xs => if x < 0 ∨ x > 10000 ∨ x < last then 36 else chainS x xs
def fcheckS (l : List Int) : Int := if l.length = 4 then chainS 0 l else 36
def gradeS (a : Int) (l : List Int) (g : Int) : Int × Int := if fcheckS l = 0 then (if g < 0 ∨ g ≥ 4 then (0, 2) else lessS a (rd l g)) else (0, 36)
theorem chainS_or (l : List Int) : ∀ last, chainS last l = 0 ∨ chainS last l = 36 := by
  induction l with
  | nil => intro _; exact .inl rfl
  | cons x xs ih => intro last; simp only [chainS]; split; exact .inr rfl; exact ih x
theorem fcheckS_or (l : List Int) : fcheckS l = 0 ∨ fcheckS l = 36 := by
  unfold fcheckS; split; exact chainS_or _ _; exact .inr rfl
theorem fee_check_l0 {l : List Int} (hl : l.length = 4) (d : Nat) : ∀ (i : Nat) (last : Int), l.length - i = d → i ≤ l.length → Ev (fun k => fee_Check.l0 k last l (l.length : Int) (i : Int)) (chainS last (l.drop i)) := by
  induction d with
  | zero =>
    intro i last hd hi
    refine Ev.step (fun k => by simp only [fee_Check.l0]; rfl) ?_
    refine Ev.neg (by omega) (Ev.ok ?_)
    rw [List.drop_eq_nil_of_le (by omega)]; rfl
  | succ d ih =>
    intro i last hd hi
    have h : i < l.length := by omega
    refine Ev.step (fun k => by simp only [fee_Check.l0]; rfl) ?_
    refine Ev.pos (by omega) (Ev.pos (by omega) (Ev.pos (by omega) ?_))
    rw [drop_cons h, rd_nat h]
    refine Ev.bindc (fee_may_f _) ?_
    simp only [chainS]
    refine Ev.ite (fun h1 => ?_) (fun h1 => Ev.ok ?_)
    · have h2 := of_decide_eq_true h1
      refine Ev.ite (fun h3 => Ev.ok (by rw [if_pos (.inr (.inr h3))])) (fun h3 => ?_)
      rw [if_neg (by omega), wrap_eq (by omega) (by omega)]
      exact ih (i + 1) _ (by omega) (by omega)
    have h2 : ¬ (0 ≤ l[i] ∧ l[i] ≤ 10000) := fun x => h1 (decide_eq_true x)
    rw [if_pos (by omega)]
theorem fee_check_f (l : List Int) : Ev (fun k => fee_Check.f k l) (fcheckS l) := by
  unfold fee_Check.f fcheckS
  by_cases h : l.length = 4
  · rw [if_pos h]
    exact Ev.pos (by omega) (fee_check_l0 h l.length 0 0 (by omega) (by omega))
  rw [if_neg h]
  exact Ev.neg (by omega) (Ev.ok rfl)
theorem fcheckS_len {l : List Int} (h : fcheckS l = 0) : l.length = 4 := by
  unfold fcheckS at h
  split at h
  · assumption
  simp at h
theorem fee_grade_f (a : Int) (l : List Int) (g : Int) : Ev (fun k => fee_Grade.f k a l g) (gradeS a l g) := by
  unfold fee_Grade.f gradeS
  refine Ev.bind (fee_check_f l) ?_
  refine Ev.ite (fun h => ?_) (fun h => Ev.ok ?_)
  · rw [if_pos h]
    have := fcheckS_len h
    refine Ev.ite (fun h1 => Ev.ok (by rw [if_pos (.inl h1)])) (fun h1 => Ev.ite (fun h2 => Ev.ok (by rw [if_pos (.inr h2)])) (fun h2 => ?_))
    rw [if_neg (by omega)]
    exact Ev.pos (by omega) (Ev.pos (by omega) (Ev.bind (fee_less_f _ _) (Ev.ok rfl)))
  rw [if_neg h, (fcheckS_or l).resolve_left h]
end Go.Proofs.Ytefhljhpcpajgaa.Q
