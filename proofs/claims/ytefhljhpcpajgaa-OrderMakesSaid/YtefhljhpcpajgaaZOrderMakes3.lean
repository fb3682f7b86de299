-- by prune.py (own program),out of the print
import Derived.Test.YtefhljhpcpajgaaProg
import Derived.Below
import Derived.Deep.Draws
import Derived.Deep.AppendLies
import Derived.Maps.AppendAt
import Derived.OwnWalk
import Derived.Laws.BytesArg
import Derived.Laws.MakeOwn
import Derived.Laws.OwnMore
import Derived.Deep.OwnRows
import Derived.Tactics
import Derived.Lib.ConvBytes
import Derived.Laws.Slices
import Derived.WalkKit
import Derived.KernelRfl
import Derived.RowKit3
import Derived.Deep.LoopGhost
import Derived.Deep.QuietTactic
import Derived.BigQuiet
import Derived.WideLaws
import Derived.Deep.DeepCutAuto
import Derived.Deep.CutBlock
import Derived.Deep.RegionHeld3
import Derived.Laws.Rows
import Derived.Lib.AppendStr
import Derived.ArgAppend
import Derived.Laws.IdiomCopy
import Derived.OrdersHeld
import Derived.Laws.BitsLemmas
import Derived.RowKit
import Derived.Laws.StructEq
import Derived.Deep.RegionLawGrows
import Derived.Lib.SliceRun
import Derived.Sort.LotA
import Derived.Shelf.SlSortCmp.Insertion1
import Derived.Shelf.Small.Bits
import Derived.Shelf.Utf8.RuneCount
import Derived.Shelf.Strconv.Itoa0
import Derived.Shelf.Strings.Prefix
import Derived.Shelf.Strings.RuneCount
import Derived.Shelf.Bits.Mul64
import Derived.Ground.Names2Prog
import Derived.Shelf.Slices.SearchI
import Derived.Ground.SlsfProg
import Derived.Shelf.SlSortCmp.Insertion
import Derived.Test.YtefhljhpcpajgaaZOrderMakes2
set_option maxHeartbeats 16000000
set_option maxRecDepth 100000
namespace Go.Proofs.Ytefhljhpcpajgaa.F
open Go.RowKit Go.Proofs.YtefhljhpcpajgaaX Go.Proofs.YtefhljhpcpajgaaW.PrintWords Go.Proofs.YtefhljhpcpajgaaW.PrintLast Go.Proofs.YtefhljhpcpajgaaW.PrintMore
attribute [local go_sem] max2_int min2_int max_two min_two max_three min_three max_four min_four
attribute [local go_sem high] str_geq str_leq str_gtr
set_option linter.unusedVariables false
set_option linter.unusedSimpArgs false
mutual
def aQ.j2:Nat→Int→Int→Int→Int→Int→Int→Int→Int→Option (Int × Int)
  |0,_,_,_,_,_,_,_,_=>none
  |k+1,x2,x8,x9,x10,x11,x13,x14,x15=>if x9=0 then(none)else(aQ.l1 k x2 x8 x9 x10 x14 x15 (IntKind.u64.wrap ((IntKind.u64.wrap ((IntKind.u64.wrap ((IntKind.u64.wrap (x11 * 4294967296))+x13)) - (IntKind.u64.wrap (x15 * x2)))) - (IntKind.u64.wrap ((IntKind.u64.wrap (Int.tdiv (IntKind.u64.wrap ((IntKind.u64.wrap ((IntKind.u64.wrap (x11 * 4294967296))+x13)) - (IntKind.u64.wrap (x15 * x2)))) x9)) * x9)))) (IntKind.u64.wrap ((IntKind.u64.wrap ((IntKind.u64.wrap (x11 * 4294967296))+x13)) - (IntKind.u64.wrap (x15 * x2)))) (IntKind.u64.wrap (Int.tdiv (IntKind.u64.wrap ((IntKind.u64.wrap ((IntKind.u64.wrap (x11 * 4294967296))+x13)) - (IntKind.u64.wrap (x15 * x2)))) x9)))
def aQ.l1:Nat→Int→Int→Int→Int→Int→Int→Int→Int→Int→Option (Int × Int)
  |0,_,_,_,_,_,_,_,_,_=>none
  |k+1,x2,x8,x9,x10,x14,x15,x16,x17,x18=>if x18≥4294967296 then(aQ.j4 k x2 x8 x9 x10 x14 x15 x16 x17 x18 true)else(aQ.j4 k x2 x8 x9 x10 x14 x15 x16 x17 x18 (decide ((IntKind.u64.wrap (x18 * x10)) > (IntKind.u64.wrap ((IntKind.u64.wrap (4294967296 * x16))+x14)))))
def aQ.j4:Nat→Int→Int→Int→Int→Int→Int→Int→Int→Int→Bool→Option (Int × Int)
  |0,_,_,_,_,_,_,_,_,_,_=>none
  |k+1,x2,x8,x9,x10,x14,x15,x16,x17,x18,x113=>if x113=true then(if(IntKind.u64.wrap (x16+x9))≥4294967296 then(if 0≤x8 then(some (IntKind.u64.wrap ((IntKind.u64.wrap (x15 * 4294967296))+(IntKind.u64.wrap (x18 - 1))),shr .u64 (IntKind.u64.wrap ((IntKind.u64.wrap ((IntKind.u64.wrap (x17 * 4294967296))+x14)) - (IntKind.u64.wrap ((IntKind.u64.wrap (x18 - 1)) * x2)))) x8))else(none))else(aQ.l1 k x2 x8 x9 x10 x14 x15 (IntKind.u64.wrap (x16+x9)) x17 (IntKind.u64.wrap (x18 - 1))))else(if 0≤x8 then(some (IntKind.u64.wrap ((IntKind.u64.wrap (x15 * 4294967296))+x18),shr .u64 (IntKind.u64.wrap ((IntKind.u64.wrap ((IntKind.u64.wrap (x17 * 4294967296))+x14)) - (IntKind.u64.wrap (x18 * x2)))) x8))else(none))
def aQ.l0:Nat→Int→Int→Int→Int→Int→Int→Int→Int→Int→Option (Int × Int)
  |0,_,_,_,_,_,_,_,_,_=>none
  |k+1,x2,x8,x9,x10,x11,x13,x14,x15,x16=>if x15≥4294967296 then(aQ.j1 k x2 x8 x9 x10 x11 x13 x14 x15 x16 true)else(aQ.j1 k x2 x8 x9 x10 x11 x13 x14 x15 x16 (decide ((IntKind.u64.wrap (x15 * x10)) > (IntKind.u64.wrap ((IntKind.u64.wrap (4294967296 * x16))+x13)))))
def aQ.j1:Nat→Int→Int→Int→Int→Int→Int→Int→Int→Int→Bool→Option (Int × Int)
  |0,_,_,_,_,_,_,_,_,_,_=>none
  |k+1,x2,x8,x9,x10,x11,x13,x14,x15,x16,x78=>if x78=true then(if(IntKind.u64.wrap (x16+x9))≥4294967296 then(aQ.j2 k x2 x8 x9 x10 x11 x13 x14 (IntKind.u64.wrap (x15 - 1)))else(aQ.l0 k x2 x8 x9 x10 x11 x13 x14 (IntKind.u64.wrap (x15 - 1)) (IntKind.u64.wrap (x16+x9))))else(aQ.j2 k x2 x8 x9 x10 x11 x13 x14 x15)
end
def aQ.f (k:Nat) (a0:Int) (a1:Int) (a2:Int):Option (Int × Int):=if a2=0 then(none)else(if a2≤a0 then(none)else(if a0=0 then(some (IntKind.u64.wrap (Int.tdiv a1 a2),Int.tmod a1 a2))else((bT.f k a2).bind fun t101=> (if 0≤(IntKind.u64.wrap (t101))then(if 0≤(IntKind.u64.wrap (64 - (IntKind.u64.wrap (t101))))then(if((shl .u64 a2 (IntKind.u64.wrap (t101))) / 4294967296)=0 then(none)else(aQ.l0 k (shl .u64 a2 (IntKind.u64.wrap (t101))) (IntKind.u64.wrap (t101)) ((shl .u64 a2 (IntKind.u64.wrap (t101))) / 4294967296) (Go.bits .and .u64 (shl .u64 a2 (IntKind.u64.wrap (t101))) 4294967295) (Go.bits .or .u64 (shl .u64 a0 (IntKind.u64.wrap (t101))) (shr .u64 a1 (IntKind.u64.wrap (64 - (IntKind.u64.wrap (t101)))))) ((shl .u64 a1 (IntKind.u64.wrap (t101))) / 4294967296) (Go.bits .and .u64 (shl .u64 a1 (IntKind.u64.wrap (t101))) 4294967295) (IntKind.u64.wrap (Int.tdiv (Go.bits .or .u64 (shl .u64 a0 (IntKind.u64.wrap (t101))) (shr .u64 a1 (IntKind.u64.wrap (64 - (IntKind.u64.wrap (t101)))))) ((shl .u64 a2 (IntKind.u64.wrap (t101))) / 4294967296))) (IntKind.u64.wrap ((Go.bits .or .u64 (shl .u64 a0 (IntKind.u64.wrap (t101))) (shr .u64 a1 (IntKind.u64.wrap (64 - (IntKind.u64.wrap (t101)))))) - (IntKind.u64.wrap ((IntKind.u64.wrap (Int.tdiv (Go.bits .or .u64 (shl .u64 a0 (IntKind.u64.wrap (t101))) (shr .u64 a1 (IntKind.u64.wrap (64 - (IntKind.u64.wrap (t101)))))) ((shl .u64 a2 (IntKind.u64.wrap (t101))) / 4294967296))) *((shl .u64 a2 (IntKind.u64.wrap (t101))) / 4294967296)))))))else(none))else(none)))))
theorem aQ.mono_l: ∀ k,(∀ y0 y1 y2 y3 y4 y5 y6 y7,LeO (aQ.j2 k y0 y1 y2 y3 y4 y5 y6 y7) (aQ.j2 (k+1) y0 y1 y2 y3 y4 y5 y6 y7))∧(∀ y0 y1 y2 y3 y4 y5 y6 y7 y8,LeO (aQ.l1 k y0 y1 y2 y3 y4 y5 y6 y7 y8) (aQ.l1 (k+1) y0 y1 y2 y3 y4 y5 y6 y7 y8))∧(∀ y0 y1 y2 y3 y4 y5 y6 y7 y8 y9,LeO (aQ.j4 k y0 y1 y2 y3 y4 y5 y6 y7 y8 y9) (aQ.j4 (k+1) y0 y1 y2 y3 y4 y5 y6 y7 y8 y9))∧(∀ y0 y1 y2 y3 y4 y5 y6 y7 y8,LeO (aQ.l0 k y0 y1 y2 y3 y4 y5 y6 y7 y8) (aQ.l0 (k+1) y0 y1 y2 y3 y4 y5 y6 y7 y8))∧(∀ y0 y1 y2 y3 y4 y5 y6 y7 y8 y9,LeO (aQ.j1 k y0 y1 y2 y3 y4 y5 y6 y7 y8 y9) (aQ.j1 (k+1) y0 y1 y2 y3 y4 y5 y6 y7 y8 y9))
  |0=> ⟨fun _ _ _ _ _ _ _ _ r h=>by simp[aQ.j2] at h,fun _ _ _ _ _ _ _ _ _ r h=>by simp[aQ.l1] at h,fun _ _ _ _ _ _ _ _ _ _ r h=>by simp[aQ.j4] at h,fun _ _ _ _ _ _ _ _ _ r h=>by simp[aQ.l0] at h,fun _ _ _ _ _ _ _ _ _ _ r h=>by simp[aQ.j1] at h⟩
  |k+1=>by
    obtain⟨ih0,ih1,ih2,ih3,ih4⟩:=aQ.mono_l k
    refine⟨?_,?_,?_,?_,?_⟩
    · intro y0 y1 y2 y3 y4 y5 y6 y7
      unfold aQ.j2
      repeat' (with_reducible first|exact ih0 _ _ _ _ _ _ _ _|exact ih1 _ _ _ _ _ _ _ _ _|exact ih2 _ _ _ _ _ _ _ _ _ _|exact ih3 _ _ _ _ _ _ _ _ _|exact ih4 _ _ _ _ _ _ _ _ _ _|exact bT.mono _ _|exact LeO.refl _|exact LeO.none _|refine LeO.ite ?_ ?_|refine LeO.bind ?_ (fun _=>?_))
    · intro y0 y1 y2 y3 y4 y5 y6 y7 y8
      unfold aQ.l1
      repeat' (with_reducible first|exact ih0 _ _ _ _ _ _ _ _|exact ih1 _ _ _ _ _ _ _ _ _|exact ih2 _ _ _ _ _ _ _ _ _ _|exact ih3 _ _ _ _ _ _ _ _ _|exact ih4 _ _ _ _ _ _ _ _ _ _|exact bT.mono _ _|exact LeO.refl _|exact LeO.none _|refine LeO.ite ?_ ?_|refine LeO.bind ?_ (fun _=>?_))
    · intro y0 y1 y2 y3 y4 y5 y6 y7 y8 y9
      unfold aQ.j4
      repeat' (with_reducible first|exact ih0 _ _ _ _ _ _ _ _|exact ih1 _ _ _ _ _ _ _ _ _|exact ih2 _ _ _ _ _ _ _ _ _ _|exact ih3 _ _ _ _ _ _ _ _ _|exact ih4 _ _ _ _ _ _ _ _ _ _|exact bT.mono _ _|exact LeO.refl _|exact LeO.none _|refine LeO.ite ?_ ?_|refine LeO.bind ?_ (fun _=>?_))
    · intro y0 y1 y2 y3 y4 y5 y6 y7 y8
      unfold aQ.l0
      repeat' (with_reducible first|exact ih0 _ _ _ _ _ _ _ _|exact ih1 _ _ _ _ _ _ _ _ _|exact ih2 _ _ _ _ _ _ _ _ _ _|exact ih3 _ _ _ _ _ _ _ _ _|exact ih4 _ _ _ _ _ _ _ _ _ _|exact bT.mono _ _|exact LeO.refl _|exact LeO.none _|refine LeO.ite ?_ ?_|refine LeO.bind ?_ (fun _=>?_))
    intro y0 y1 y2 y3 y4 y5 y6 y7 y8 y9
    unfold aQ.j1
    repeat' (with_reducible first|exact ih0 _ _ _ _ _ _ _ _|exact ih1 _ _ _ _ _ _ _ _ _|exact ih2 _ _ _ _ _ _ _ _ _ _|exact ih3 _ _ _ _ _ _ _ _ _|exact ih4 _ _ _ _ _ _ _ _ _ _|exact bT.mono _ _|exact LeO.refl _|exact LeO.none _|refine LeO.ite ?_ ?_|refine LeO.bind ?_ (fun _=>?_))
theorem aQ.mono: ∀ a0 a1 a2 k,LeO (aQ.f k a0 a1 a2) (aQ.f (k+1) a0 a1 a2):=by
  intro a0 a1 a2 k
  obtain⟨ih0,ih1,ih2,ih3,ih4⟩:=aQ.mono_l k
  unfold aQ.f
  repeat' (with_reducible first|exact ih0 _ _ _ _ _ _ _ _|exact ih1 _ _ _ _ _ _ _ _ _|exact ih2 _ _ _ _ _ _ _ _ _ _|exact ih3 _ _ _ _ _ _ _ _ _|exact ih4 _ _ _ _ _ _ _ _ _ _|exact bT.mono _ _|exact LeO.refl _|exact LeO.none _|refine LeO.ite ?_ ?_|refine LeO.bind ?_ (fun _=>?_))
theorem aQ.calls (k:Nat) (a0:Int) (a1:Int) (a2:Int) (r1:Int) (r2:Int) (w:World) (h:aQ.f k a0 a1 a2=some (r1,r2)):
  Calls Try.prog 137 #[.int .u64 a0,.int .u64 a1,.int .u64 a2] w fun e w'=>e= .returned (.tuple #[.int .u64 r1,.int .u64 r2])∧Drawn0 w w':=by
 have H:(if a2=0 then(none)else(if a2≤a0 then(none)else(if a0=0 then(some (IntKind.u64.wrap (Int.tdiv a1 a2),Int.tmod a1 a2))else((bT.f k a2).bind fun t101=> (if 0≤(IntKind.u64.wrap (t101))then(if 0≤(IntKind.u64.wrap (64 - (IntKind.u64.wrap (t101))))then(if((shl .u64 a2 (IntKind.u64.wrap (t101))) / 4294967296)=0 then(none)else(aQ.l0 k (shl .u64 a2 (IntKind.u64.wrap (t101))) (IntKind.u64.wrap (t101)) ((shl .u64 a2 (IntKind.u64.wrap (t101))) / 4294967296) (Go.bits .and .u64 (shl .u64 a2 (IntKind.u64.wrap (t101))) 4294967295) (Go.bits .or .u64 (shl .u64 a0 (IntKind.u64.wrap (t101))) (shr .u64 a1 (IntKind.u64.wrap (64 - (IntKind.u64.wrap (t101)))))) ((shl .u64 a1 (IntKind.u64.wrap (t101))) / 4294967296) (Go.bits .and .u64 (shl .u64 a1 (IntKind.u64.wrap (t101))) 4294967295) (IntKind.u64.wrap (Int.tdiv (Go.bits .or .u64 (shl .u64 a0 (IntKind.u64.wrap (t101))) (shr .u64 a1 (IntKind.u64.wrap (64 - (IntKind.u64.wrap (t101)))))) ((shl .u64 a2 (IntKind.u64.wrap (t101))) / 4294967296))) (IntKind.u64.wrap ((Go.bits .or .u64 (shl .u64 a0 (IntKind.u64.wrap (t101))) (shr .u64 a1 (IntKind.u64.wrap (64 - (IntKind.u64.wrap (t101)))))) - (IntKind.u64.wrap ((IntKind.u64.wrap (Int.tdiv (Go.bits .or .u64 (shl .u64 a0 (IntKind.u64.wrap (t101))) (shr .u64 a1 (IntKind.u64.wrap (64 - (IntKind.u64.wrap (t101)))))) ((shl .u64 a2 (IntKind.u64.wrap (t101))) / 4294967296))) *((shl .u64 a2 (IntKind.u64.wrap (t101))) / 4294967296)))))))else(none))else(none))))))=some (r1,r2):=h
 clear h
 by_cases c4:a2=0
 ·rw[if_pos c4] at H
  exact absurd H (by simp)
 rw[if_neg c4] at H
 have c4b0:(a2==0)=false:=beq_eq_false_iff_ne.mpr c4
 have c4b1:(a2 != 0)=true:=bne_iff_ne.mpr c4
 by_cases c5:a2≤a0
 ·rw[if_pos c5] at H
  exact absurd H (by simp)
 rw[if_neg c5] at H
 have c5b0:=zGq c5
 clear c5
 by_cases c6:a0=0
 ·rw[if_pos c6] at H
  have c6b0:(a0==0)=true:=beq_iff_eq.mpr c6;have c6b1:(a0 != 0)=false:=bne_eq_false_iff_eq.mpr c6;clear c6;simp only[zNq,zOq] at H;obtain⟨rfl,rfl⟩:=H;go_enter Try.func137,Try.ntmps137;go_wp2;repeat(go_quiet (fail);try go_wp2)
  go_ret2;exact⟨by first|rfl|(simp;done)|(simp[*];done),by repeat(first|exact Drawn0.refl _|apply Drawn0.step)⟩
 rw[if_neg c6] at H
 have c6b0:(a0==0)=false:=beq_eq_false_iff_ne.mpr c6
 have c6b1:(a0 != 0)=true:=bne_iff_ne.mpr c6
 obtain⟨t101,A7,H⟩:=qD_ H
 (try dsimp only at H)
 obtain⟨ji8,hji8⟩: ∃ j_:Int,(IntKind.u64.wrap (t101))=j_:=⟨_,rfl⟩
 replace H:(if 0≤(ji8)then(if 0≤(IntKind.u64.wrap (64 - (ji8)))then(if((shl .u64 a2 (ji8)) / 4294967296)=0 then(none)else(aQ.l0 k (shl .u64 a2 (ji8)) ji8 ((shl .u64 a2 (ji8)) / 4294967296) (Go.bits .and .u64 (shl .u64 a2 (ji8)) 4294967295) (Go.bits .or .u64 (shl .u64 a0 (ji8)) (shr .u64 a1 (IntKind.u64.wrap (64 - (ji8))))) ((shl .u64 a1 (ji8)) / 4294967296) (Go.bits .and .u64 (shl .u64 a1 (ji8)) 4294967295) (IntKind.u64.wrap (Int.tdiv (Go.bits .or .u64 (shl .u64 a0 (ji8)) (shr .u64 a1 (IntKind.u64.wrap (64 - (ji8))))) ((shl .u64 a2 (ji8)) / 4294967296))) (IntKind.u64.wrap ((Go.bits .or .u64 (shl .u64 a0 (ji8)) (shr .u64 a1 (IntKind.u64.wrap (64 - (ji8))))) - (IntKind.u64.wrap ((IntKind.u64.wrap (Int.tdiv (Go.bits .or .u64 (shl .u64 a0 (ji8)) (shr .u64 a1 (IntKind.u64.wrap (64 - (ji8))))) ((shl .u64 a2 (ji8)) / 4294967296))) *((shl .u64 a2 (ji8)) / 4294967296)))))))else(none))else(none))=some (r1,r2):=by first|(rw[hji8] at H;exact H)|(simp only[hji8] at H⊢;exact H)
 (try rw[hji8] at A7)
 by_cases c9:0≤(ji8)
 ·rw[if_pos c9] at H
  have c9b0:=eq_true c9;have c9b1:=zFq c9;clear c9;obtain⟨ji10,hji10⟩: ∃ j_:Int,(shl .u64 a2 (ji8))=j_:=⟨_,rfl⟩
  replace H:(if 0≤(IntKind.u64.wrap (64 - (ji8)))then(if((ji10) / 4294967296)=0 then(none)else(aQ.l0 k ji10 ji8 ((ji10) / 4294967296) (Go.bits .and .u64 (ji10) 4294967295) (Go.bits .or .u64 (shl .u64 a0 (ji8)) (shr .u64 a1 (IntKind.u64.wrap (64 - (ji8))))) ((shl .u64 a1 (ji8)) / 4294967296) (Go.bits .and .u64 (shl .u64 a1 (ji8)) 4294967295) (IntKind.u64.wrap (Int.tdiv (Go.bits .or .u64 (shl .u64 a0 (ji8)) (shr .u64 a1 (IntKind.u64.wrap (64 - (ji8))))) ((ji10) / 4294967296))) (IntKind.u64.wrap ((Go.bits .or .u64 (shl .u64 a0 (ji8)) (shr .u64 a1 (IntKind.u64.wrap (64 - (ji8))))) - (IntKind.u64.wrap ((IntKind.u64.wrap (Int.tdiv (Go.bits .or .u64 (shl .u64 a0 (ji8)) (shr .u64 a1 (IntKind.u64.wrap (64 - (ji8))))) ((ji10) / 4294967296))) *((ji10) / 4294967296)))))))else(none))=some (r1,r2):=by first|(rw[hji10] at H;exact H)|(simp only[hji10] at H⊢;exact H)
  (try rw[hji10] at A7)
  have hji10_:(IntKind.u64.wrap (a2 * 2 ^ min (ji8).toNat 64))=ji10:=hji10;have hji10z:(ji8)≤64→(IntKind.u64.wrap (a2 * 2 ^ (ji8).toNat))=ji10:=shl_small hji10;have c11b0:=eq_true (qO_:0≤(ji8));obtain⟨ji12,hji12⟩: ∃ j_:Int,(shl .u64 a0 (ji8))=j_:=⟨_,rfl⟩
  replace H:(if 0≤(IntKind.u64.wrap (64 - (ji8)))then(if((ji10) / 4294967296)=0 then(none)else(aQ.l0 k ji10 ji8 ((ji10) / 4294967296) (Go.bits .and .u64 (ji10) 4294967295) (Go.bits .or .u64 (ji12) (shr .u64 a1 (IntKind.u64.wrap (64 - (ji8))))) ((shl .u64 a1 (ji8)) / 4294967296) (Go.bits .and .u64 (shl .u64 a1 (ji8)) 4294967295) (IntKind.u64.wrap (Int.tdiv (Go.bits .or .u64 (ji12) (shr .u64 a1 (IntKind.u64.wrap (64 - (ji8))))) ((ji10) / 4294967296))) (IntKind.u64.wrap ((Go.bits .or .u64 (ji12) (shr .u64 a1 (IntKind.u64.wrap (64 - (ji8))))) - (IntKind.u64.wrap ((IntKind.u64.wrap (Int.tdiv (Go.bits .or .u64 (ji12) (shr .u64 a1 (IntKind.u64.wrap (64 - (ji8))))) ((ji10) / 4294967296))) *((ji10) / 4294967296)))))))else(none))=some (r1,r2):=by first|(rw[hji12] at H;exact H)|(simp only[hji12] at H⊢;exact H)
  (try rw[hji12] at A7)
  have hji12_:(IntKind.u64.wrap (a0 * 2 ^ min (ji8).toNat 64))=ji12:=hji12;have hji12z:(ji8)≤64→(IntKind.u64.wrap (a0 * 2 ^ (ji8).toNat))=ji12:=shl_small hji12;obtain⟨ji13,hji13⟩: ∃ j_:Int,(IntKind.u64.wrap (64 - (ji8)))=j_:=⟨_,rfl⟩
  replace H:(if 0≤(ji13)then(if((ji10) / 4294967296)=0 then(none)else(aQ.l0 k ji10 ji8 ((ji10) / 4294967296) (Go.bits .and .u64 (ji10) 4294967295) (Go.bits .or .u64 (ji12) (shr .u64 a1 (ji13))) ((shl .u64 a1 (ji8)) / 4294967296) (Go.bits .and .u64 (shl .u64 a1 (ji8)) 4294967295) (IntKind.u64.wrap (Int.tdiv (Go.bits .or .u64 (ji12) (shr .u64 a1 (ji13))) ((ji10) / 4294967296))) (IntKind.u64.wrap ((Go.bits .or .u64 (ji12) (shr .u64 a1 (ji13))) - (IntKind.u64.wrap ((IntKind.u64.wrap (Int.tdiv (Go.bits .or .u64 (ji12) (shr .u64 a1 (ji13))) ((ji10) / 4294967296))) *((ji10) / 4294967296)))))))else(none))=some (r1,r2):=by first|(rw[hji13] at H;exact H)|(simp only[hji13] at H⊢;exact H)
  (try rw[hji13] at A7)
  by_cases c14:0≤(ji13)
  ·rw[if_pos c14] at H
   have c14b0:=eq_true c14;have c14b1:=zFq c14;clear c14;obtain⟨ji15,hji15⟩: ∃ j_:Int,(shr .u64 a1 (ji13))=j_:=⟨_,rfl⟩
   replace H:(if((ji10) / 4294967296)=0 then(none)else(aQ.l0 k ji10 ji8 ((ji10) / 4294967296) (Go.bits .and .u64 (ji10) 4294967295) (Go.bits .or .u64 (ji12) (ji15)) ((shl .u64 a1 (ji8)) / 4294967296) (Go.bits .and .u64 (shl .u64 a1 (ji8)) 4294967295) (IntKind.u64.wrap (Int.tdiv (Go.bits .or .u64 (ji12) (ji15)) ((ji10) / 4294967296))) (IntKind.u64.wrap ((Go.bits .or .u64 (ji12) (ji15)) - (IntKind.u64.wrap ((IntKind.u64.wrap (Int.tdiv (Go.bits .or .u64 (ji12) (ji15)) ((ji10) / 4294967296))) *((ji10) / 4294967296)))))))=some (r1,r2):=by first|(rw[hji15] at H;exact H)|(simp only[hji15] at H⊢;exact H)
   (try rw[hji15] at A7)
   have hji15_:(a1 / 2 ^ min (ji13).toNat 64)=ji15:=hji15;have hji15z:(ji13)≤64→(a1 / 2 ^ (ji13).toNat)=ji15:=shr_small hji15;have c16b0:=eq_true (qO_:0≤(ji8));obtain⟨ji17,hji17⟩: ∃ j_:Int,(shl .u64 a1 (ji8))=j_:=⟨_,rfl⟩
   replace H:(if((ji10) / 4294967296)=0 then(none)else(aQ.l0 k ji10 ji8 ((ji10) / 4294967296) (Go.bits .and .u64 (ji10) 4294967295) (Go.bits .or .u64 (ji12) (ji15)) ((ji17) / 4294967296) (Go.bits .and .u64 (ji17) 4294967295) (IntKind.u64.wrap (Int.tdiv (Go.bits .or .u64 (ji12) (ji15)) ((ji10) / 4294967296))) (IntKind.u64.wrap ((Go.bits .or .u64 (ji12) (ji15)) - (IntKind.u64.wrap ((IntKind.u64.wrap (Int.tdiv (Go.bits .or .u64 (ji12) (ji15)) ((ji10) / 4294967296))) *((ji10) / 4294967296)))))))=some (r1,r2):=by first|(rw[hji17] at H;exact H)|(simp only[hji17] at H⊢;exact H)
   (try rw[hji17] at A7)
   have hji17_:(IntKind.u64.wrap (a1 * 2 ^ min (ji8).toNat 64))=ji17:=hji17;have hji17z:(ji8)≤64→(IntKind.u64.wrap (a1 * 2 ^ (ji8).toNat))=ji17:=shl_small hji17;by_cases c18:((ji10) / 4294967296)=0
   ·rw[if_pos c18] at H
    exact absurd H (by simp)
   rw[if_neg c18] at H;have c18b0:(((ji10) / 4294967296)==0)=false:=beq_eq_false_iff_ne.mpr c18;have c18b1:(((ji10) / 4294967296) != 0)=true:=bne_iff_ne.mpr c18;have HC19:=zA H;clear H;go_enter Try.func137,Try.ntmps137;go_upto_block 0 with(first|(go_at_call 147;(with_reducible refine(bT.calls k a2 t101 _ A7.out).mono ?_);rintro e w' ⟨rfl,⟨nd,rfl⟩⟩;(try first|exact⟨rfl,_,World.drewN_drewN _ _ _⟩|exact⟨rfl,_,Eq.trans (World.drewN_drewN _ _ _) (congrArg (World.drewN _) (Nat.add_assoc _ _ _))⟩)))
   repeat(go_quiet (first|(go_at_call 147;(with_reducible refine(bT.calls k a2 t101 _ A7.out).mono ?_);rintro e w' ⟨rfl,⟨nd,rfl⟩⟩;(try first|exact⟨rfl,_,World.drewN_drewN _ _ _⟩|exact⟨rfl,_,Eq.trans (World.drewN_drewN _ _ _) (congrArg (World.drewN _) (Nat.add_assoc _ _ _))⟩)));go_upto_block 0 with(first|(go_at_call 147;(with_reducible refine(bT.calls k a2 t101 _ A7.out).mono ?_);rintro e w' ⟨rfl,⟨nd,rfl⟩⟩;(try first|exact⟨rfl,_,World.drewN_drewN _ _ _⟩|exact⟨rfl,_,Eq.trans (World.drewN_drewN _ _ _) (congrArg (World.drewN _) (Nat.add_assoc _ _ _))⟩))))
   (try simp only[Act.put,zH,zI,zJ])
   go_cut[15] (fun v15 wc=> ∃ (kq:Nat) (x15_18:Int),v15= .int .u64 x15_18∧Aside0 (aQ.j2 kq ji10 ji8 ((ji10) / 4294967296) (Go.bits .and .u64 (ji10) 4294967295) (Go.bits .or .u64 (ji12) (ji15)) ((ji17) / 4294967296) (Go.bits .and .u64 (ji17) 4294967295) x15_18=some (r1,r2))∧Aside0 (kq≤k)∧Drawn0 w wc)
   case first=>
    have H:=HC19.out;clear HC19;have H':=zA H;clear H;go_wp2;repeat(go_quiet (fail);try go_wp2)
    go_loopg[15,16] k (fun kq v15 v16 w'=> ∃ (x15_1:Int) (x16_1:Int),v15= .int .u64 x15_1∧v16= .int .u64 x16_1∧Aside0 (aQ.l0 kq ji10 ji8 ((ji10) / 4294967296) (Go.bits .and .u64 (ji10) 4294967295) (Go.bits .or .u64 (ji12) (ji15)) ((ji17) / 4294967296) (Go.bits .and .u64 (ji17) 4294967295) x15_1 x16_1=some (r1,r2))∧Aside0 (kq≤k)∧Drawn0 w w')
    case atStart=>exact⟨(IntKind.u64.wrap (Int.tdiv (Go.bits .or .u64 (ji12) (ji15)) ((ji10) / 4294967296))),(IntKind.u64.wrap ((Go.bits .or .u64 (ji12) (ji15)) - (IntKind.u64.wrap ((IntKind.u64.wrap (Int.tdiv (Go.bits .or .u64 (ji12) (ji15)) ((ji10) / 4294967296))) *((ji10) / 4294967296))))),(by first|rfl|(simp;done)|(simp only[←hji10,←hji12,←hji15] <;> (first|rfl|simp))|(simp[*];done)),(by first|rfl|(simp;done)|(simp only[←hji10,←hji12,←hji15] <;> (first|rfl|simp))|(simp[*];done)),H',⟨Nat.le_refl _⟩,by repeat(first|exact Drawn0.refl _|apply Drawn0.step)⟩
    case round=>
     clear H';try clear c1
     try clear p2
     try clear c4
     try clear c4b0
     try clear c4b1
     try clear c5
     try clear c5b0
     try clear c6
     try clear c6b0
     try clear c6b1
     try clear c9
     try clear c9b0
     try clear c9b1
     try clear c11
     try clear c11b0
     try clear c13
     try clear c14
     try clear c14b0
     try clear c14b1
     try clear c16
     try clear c16b0
     try clear c18
     try clear c18b0
     try clear c18b1
     obtain⟨x15_1,x16_1,rfl,rfl,HA,HK1,⟨m1,rfl⟩⟩:=hrel;cases gk with
     |zero=>exact absurd HA.out (by simp[aQ.l0])
     |succ k1=>
      have H:=HA.out;clear HA;simp only[aQ.l0] at H;have HC20:=zA H;clear H;go_upto_region 17 with(fail)
      repeat(go_quiet (fail);go_upto_region 17 with(fail))
      go_cut[78] (fun v78 wc=> ∃ (kq:Nat) (x78_19:Bool),v78= .bool x78_19∧Aside0 (aQ.j1 kq ji10 ji8 ((ji10) / 4294967296) (Go.bits .and .u64 (ji10) 4294967295) (Go.bits .or .u64 (ji12) (ji15)) ((ji17) / 4294967296) (Go.bits .and .u64 (ji17) 4294967295) x15_1 x16_1 x78_19=some (r1,r2))∧Aside0 (kq≤k1)∧Drawn0 w wc)
      case first=>
       have H:=HC20.out;clear HC20;by_cases c21:x15_1≥4294967296
       ·rw[if_pos c21] at H
        have c21b0:decide (4294967296≤x15_1)=true:=zFq c21;clear c21;(first|rw[c21b0] |(simp only[i64_w,i32_w];rw[c21b0])|skip)
        have H':=zA H;clear H;go_wp2;repeat(go_quiet (fail);try go_wp2)
        go_meet
        case rel=>exact⟨_,(true),qF_,H',⟨by have:=HK1.out;first|omega|exact Nat.le_refl _⟩,by repeat(first|exact Drawn0.refl _|apply Drawn0.step)⟩
       rw[if_neg c21] at H;have c21b0:decide (4294967296≤x15_1)=false:=zGq c21;clear c21;(first|rw[c21b0] |(simp only[i64_w,i32_w];rw[c21b0])|skip)
       have H':=zA H;clear H;go_wp2;repeat(go_quiet (fail);try go_wp2)
       go_meet
       case rel=>exact⟨_,(decide ((IntKind.u64.wrap (x15_1 *(Go.bits .and .u64 (ji10) 4294967295))) > (IntKind.u64.wrap ((IntKind.u64.wrap (4294967296 * x16_1))+((ji17) / 4294967296))))),(by first|rfl|(simp;done)|(simp only[←hji10,←hji17] <;> (first|rfl|simp))|(simp[*];done)),H',⟨by have:=HK1.out;first|omega|exact Nat.le_refl _⟩,by repeat(first|exact Drawn0.refl _|apply Drawn0.step)⟩
      case rest=>
       clear HC20;try clear c1
       try clear c2
       try clear p2
       try clear c4
       try clear c4b0
       try clear c4b1
       try clear c5
       try clear c5b0
       try clear c6
       try clear c6b0
       try clear c6b1
       try clear c9
       try clear c9b0
       try clear c9b1
       try clear c11
       try clear c11b0
       try clear c13
       try clear c14
       try clear c14b0
       try clear c14b1
       try clear c16
       try clear c16b0
       try clear c18
       try clear c18b0
       try clear c18b1
       try clear c21
       try clear c21b0
       try clear p2
       obtain⟨kq,x78_19,rfl,HA,HJ19,⟨mc19,rfl⟩⟩:=hcut;cases kq with
       |zero=>exact absurd HA.out (by simp[aQ.j1])
       |succ kj19=>
        have H:=HA.out;clear HA;simp only[aQ.j1] at H;by_cases c22:x78_19=true
        ·subst c22
         have H1:(if(IntKind.u64.wrap (x16_1+((ji10) / 4294967296)))≥4294967296 then(aQ.j2 kj19 ji10 ji8 ((ji10) / 4294967296) (Go.bits .and .u64 (ji10) 4294967295) (Go.bits .or .u64 (ji12) (ji15)) ((ji17) / 4294967296) (Go.bits .and .u64 (ji17) 4294967295) (IntKind.u64.wrap (x15_1 - 1)))else(aQ.l0 kj19 ji10 ji8 ((ji10) / 4294967296) (Go.bits .and .u64 (ji10) 4294967295) (Go.bits .or .u64 (ji12) (ji15)) ((ji17) / 4294967296) (Go.bits .and .u64 (ji17) 4294967295) (IntKind.u64.wrap (x15_1 - 1)) (IntKind.u64.wrap (x16_1+((ji10) / 4294967296)))))=some (r1,r2):=by first|(rw[if_pos rfl] at H;exact H)|rfl
         clear H;have H:=H1;clear H1;by_cases c23:(IntKind.u64.wrap (x16_1+((ji10) / 4294967296)))≥4294967296
         ·rw[if_pos c23] at H
          have c23b0:decide (4294967296≤(IntKind.u64.wrap (x16_1+((ji10) / 4294967296))))=true:=zFq c23;clear c23;have H':=zA H;clear H;go_wp2;repeat(go_quiet (fail);try go_wp2)
          go_meet
          case rel=>exact⟨_,(IntKind.u64.wrap (x15_1 - 1)),qF_,H',⟨by have:=HK1.out;have:=HJ19.out;first|omega|exact Nat.le_refl _⟩,by repeat(first|exact Drawn0.refl _|apply Drawn0.step)⟩
         rw[if_neg c23] at H;have c23b0:decide (4294967296≤(IntKind.u64.wrap (x16_1+((ji10) / 4294967296))))=false:=zGq c23;clear c23;have H':=zA H;clear H;go_wp2;repeat(go_quiet (fail);try go_wp2)
         go_roundg kj19
         case measure=>have:=HK1.out;have:=HJ19.out;omega
         case rel=>exact⟨(IntKind.u64.wrap (x15_1 - 1)),(IntKind.u64.wrap (x16_1+((ji10) / 4294967296))),qF_,(by first|rfl|(simp;done)|(simp only[←hji10] <;> (first|rfl|simp))|(simp[*];done)),H',⟨by have:=HK1.out;have:=HJ19.out;omega⟩,by repeat(first|exact Drawn0.refl _|apply Drawn0.step)⟩
        replace c22:=Bool.eq_false_iff.mpr c22;subst c22;have H1:(aQ.j2 kj19 ji10 ji8 ((ji10) / 4294967296) (Go.bits .and .u64 (ji10) 4294967295) (Go.bits .or .u64 (ji12) (ji15)) ((ji17) / 4294967296) (Go.bits .and .u64 (ji17) 4294967295) x15_1)=some (r1,r2):=by first|(rw[if_neg (show ¬ (false=true) by decide)] at H;exact H)|rfl
        clear H;have H:=H1;clear H1;have H':=zA H;clear H;go_wp2;repeat(go_quiet (fail);try go_wp2)
        go_meet
        case rel=>exact⟨_,(x15_1),qF_,H',⟨by have:=HK1.out;have:=HJ19.out;first|omega|exact Nat.le_refl _⟩,by repeat(first|exact Drawn0.refl _|apply Drawn0.step)⟩
   case rest=>
    clear HC19;try clear c1
    try clear c2
    try clear p2
    try clear c4
    try clear c4b0
    try clear c4b1
    try clear c5
    try clear c5b0
    try clear c6
    try clear c6b0
    try clear c6b1
    try clear c9
    try clear c9b0
    try clear c9b1
    try clear c11
    try clear c11b0
    try clear c13
    try clear c14
    try clear c14b0
    try clear c14b1
    try clear c16
    try clear c16b0
    try clear c18
    try clear c18b0
    try clear c18b1
    try clear c19
    try clear c21
    try clear c21b0
    try clear c22
    try clear c23
    try clear c23b0
    try clear p2
    obtain⟨kq,x15_18,rfl,HA,HJ18,⟨mc18,rfl⟩⟩:=hcut;cases kq with
    |zero=>exact absurd HA.out (by simp[aQ.j2])
    |succ kj18=>
     have H:=HA.out;clear HA;simp only[aQ.j2] at H;by_cases c24:((ji10) / 4294967296)=0
     ·rw[if_pos c24] at H
      exact absurd H (by simp)
     rw[if_neg c24] at H;have c24b0:(((ji10) / 4294967296)==0)=false:=beq_eq_false_iff_ne.mpr c24;have c24b1:(((ji10) / 4294967296) != 0)=true:=bne_iff_ne.mpr c24;have H':=zA H;clear H;go_wp2;repeat(go_quiet (fail);try go_wp2)
     go_loopg[16,18] kj18 (fun kq v16 v18 w'=> ∃ (x16_2:Int) (x18_2:Int),v16= .int .u64 x16_2∧v18= .int .u64 x18_2∧Aside0 (aQ.l1 kq ji10 ji8 ((ji10) / 4294967296) (Go.bits .and .u64 (ji10) 4294967295) (Go.bits .and .u64 (ji17) 4294967295) x15_18 x16_2 (IntKind.u64.wrap ((IntKind.u64.wrap ((IntKind.u64.wrap ((Go.bits .or .u64 (ji12) (ji15)) * 4294967296))+((ji17) / 4294967296))) - (IntKind.u64.wrap (x15_18 * ji10)))) x18_2=some (r1,r2))∧Aside0 (kq≤kj18)∧Drawn0 w w')
     case atStart=>exact⟨(IntKind.u64.wrap ((IntKind.u64.wrap ((IntKind.u64.wrap ((IntKind.u64.wrap ((Go.bits .or .u64 (ji12) (ji15)) * 4294967296))+((ji17) / 4294967296))) - (IntKind.u64.wrap (x15_18 * ji10)))) - (IntKind.u64.wrap ((IntKind.u64.wrap (Int.tdiv (IntKind.u64.wrap ((IntKind.u64.wrap ((IntKind.u64.wrap ((Go.bits .or .u64 (ji12) (ji15)) * 4294967296))+((ji17) / 4294967296))) - (IntKind.u64.wrap (x15_18 * ji10)))) ((ji10) / 4294967296))) *((ji10) / 4294967296))))),(IntKind.u64.wrap (Int.tdiv (IntKind.u64.wrap ((IntKind.u64.wrap ((IntKind.u64.wrap ((Go.bits .or .u64 (ji12) (ji15)) * 4294967296))+((ji17) / 4294967296))) - (IntKind.u64.wrap (x15_18 * ji10)))) ((ji10) / 4294967296))),(by first|rfl|(simp;done)|(simp only[←hji10,←hji12,←hji15,←hji17] <;> (first|rfl|simp))|(simp[*];done)),(by first|rfl|(simp;done)|(simp only[←hji10,←hji12,←hji15,←hji17] <;> (first|rfl|simp))|(simp[*];done)),H',⟨Nat.le_refl _⟩,by repeat(first|exact Drawn0.refl _|apply Drawn0.step)⟩
     case round=>
      clear H';try clear c1
      try clear c2
      try clear p2
      try clear c4
      try clear c4b0
      try clear c4b1
      try clear c5
      try clear c5b0
      try clear c6
      try clear c6b0
      try clear c6b1
      try clear c9
      try clear c9b0
      try clear c9b1
      try clear c11
      try clear c11b0
      try clear c13
      try clear c14
      try clear c14b0
      try clear c14b1
      try clear c16
      try clear c16b0
      try clear c18
      try clear c18b0
      try clear c18b1
      try clear c19
      try clear c21
      try clear c21b0
      try clear c22
      try clear c23
      try clear c23b0
      try clear c24
      try clear c24b0
      try clear c24b1
      try clear p2
      obtain⟨x16_2,x18_2,rfl,rfl,HA,HK2,⟨m2,rfl⟩⟩:=hrel;cases gk with
      |zero=>exact absurd HA.out (by simp[aQ.l1])
      |succ k2=>
       have H:=HA.out;clear HA;simp only[aQ.l1] at H;have HC25:=zA H;clear H;go_upto_region 24 with(fail)
       repeat(go_quiet (fail);go_upto_region 24 with(fail))
       go_cut[113] (fun v113 wc=> ∃ (kq:Nat) (x113_24:Bool),v113= .bool x113_24∧Aside0 (aQ.j4 kq ji10 ji8 ((ji10) / 4294967296) (Go.bits .and .u64 (ji10) 4294967295) (Go.bits .and .u64 (ji17) 4294967295) x15_18 x16_2 (IntKind.u64.wrap ((IntKind.u64.wrap ((IntKind.u64.wrap ((Go.bits .or .u64 (ji12) (ji15)) * 4294967296))+((ji17) / 4294967296))) - (IntKind.u64.wrap (x15_18 * ji10)))) x18_2 x113_24=some (r1,r2))∧Aside0 (kq≤k2)∧Drawn0 w wc)
       case first=>
        have H:=HC25.out;clear HC25;by_cases c26:x18_2≥4294967296
        ·rw[if_pos c26] at H
         have c26b0:decide (4294967296≤x18_2)=true:=zFq c26;clear c26;(first|rw[c26b0] |(simp only[i64_w,i32_w];rw[c26b0])|skip)
         have H':=zA H;clear H;go_wp2;repeat(go_quiet (fail);try go_wp2)
         go_meet
         case rel=>exact⟨_,(true),qF_,H',⟨by have:=HJ18.out;have:=HK2.out;first|omega|exact Nat.le_refl _⟩,by repeat(first|exact Drawn0.refl _|apply Drawn0.step)⟩
        rw[if_neg c26] at H;have c26b0:decide (4294967296≤x18_2)=false:=zGq c26;clear c26;(first|rw[c26b0] |(simp only[i64_w,i32_w];rw[c26b0])|skip)
        have H':=zA H;clear H;go_wp2;repeat(go_quiet (fail);try go_wp2)
        go_meet
        case rel=>exact⟨_,(decide ((IntKind.u64.wrap (x18_2 *(Go.bits .and .u64 (ji10) 4294967295))) > (IntKind.u64.wrap ((IntKind.u64.wrap (4294967296 * x16_2))+(Go.bits .and .u64 (ji17) 4294967295))))),(by first|rfl|(simp;done)|(simp only[←hji10,←hji17] <;> (first|rfl|simp))|(simp[*];done)),H',⟨by have:=HJ18.out;have:=HK2.out;first|omega|exact Nat.le_refl _⟩,by repeat(first|exact Drawn0.refl _|apply Drawn0.step)⟩
       case rest=>
        clear HC25;try clear c1
        try clear c2
        try clear p2
        try clear c4
        try clear c4b0
        try clear c4b1
        try clear c5
        try clear c5b0
        try clear c6
        try clear c6b0
        try clear c6b1
        try clear c9
        try clear c9b0
        try clear c9b1
        try clear c11
        try clear c11b0
        try clear c13
        try clear c14
        try clear c14b0
        try clear c14b1
        try clear c16
        try clear c16b0
        try clear c18
        try clear c18b0
        try clear c18b1
        try clear c19
        try clear c21
        try clear c21b0
        try clear c22
        try clear c23
        try clear c23b0
        try clear c24
        try clear c24b0
        try clear c24b1
        try clear c26
        try clear c26b0
        try clear p2
        obtain⟨kq,x113_24,rfl,HA,HJ24,⟨mc24,rfl⟩⟩:=hcut;cases kq with
        |zero=>exact absurd HA.out (by simp[aQ.j4])
        |succ kj24=>
         have H:=HA.out;clear HA;simp only[aQ.j4] at H;by_cases c27:x113_24=true
         ·subst c27
          have H1:(if(IntKind.u64.wrap (x16_2+((ji10) / 4294967296)))≥4294967296 then(if 0≤ji8 then(some (IntKind.u64.wrap ((IntKind.u64.wrap (x15_18 * 4294967296))+(IntKind.u64.wrap (x18_2 - 1))),shr .u64 (IntKind.u64.wrap ((IntKind.u64.wrap ((IntKind.u64.wrap ((IntKind.u64.wrap ((IntKind.u64.wrap ((IntKind.u64.wrap ((Go.bits .or .u64 (ji12) (ji15)) * 4294967296))+((ji17) / 4294967296))) - (IntKind.u64.wrap (x15_18 * ji10)))) * 4294967296))+(Go.bits .and .u64 (ji17) 4294967295))) - (IntKind.u64.wrap ((IntKind.u64.wrap (x18_2 - 1)) * ji10)))) ji8))else(none))else(aQ.l1 kj24 ji10 ji8 ((ji10) / 4294967296) (Go.bits .and .u64 (ji10) 4294967295) (Go.bits .and .u64 (ji17) 4294967295) x15_18 (IntKind.u64.wrap (x16_2+((ji10) / 4294967296))) (IntKind.u64.wrap ((IntKind.u64.wrap ((IntKind.u64.wrap ((Go.bits .or .u64 (ji12) (ji15)) * 4294967296))+((ji17) / 4294967296))) - (IntKind.u64.wrap (x15_18 * ji10)))) (IntKind.u64.wrap (x18_2 - 1))))=some (r1,r2):=by first|(rw[if_pos rfl] at H;exact H)|rfl
          clear H;have H:=H1;clear H1;by_cases c28:(IntKind.u64.wrap (x16_2+((ji10) / 4294967296)))≥4294967296
          ·rw[if_pos c28] at H
           have c28b0:decide (4294967296≤(IntKind.u64.wrap (x16_2+((ji10) / 4294967296))))=true:=zFq c28;clear c28;by_cases c29:0≤ji8
           ·rw[if_pos c29] at H
            have c29b0:=eq_true c29;have c29b1:=zFq c29;clear c29;obtain⟨ji30,hji30⟩: ∃ j_:Int,(shr .u64 (IntKind.u64.wrap ((IntKind.u64.wrap ((IntKind.u64.wrap ((IntKind.u64.wrap ((IntKind.u64.wrap ((IntKind.u64.wrap ((Go.bits .or .u64 (ji12) (ji15)) * 4294967296))+((ji17) / 4294967296))) - (IntKind.u64.wrap (x15_18 * ji10)))) * 4294967296))+(Go.bits .and .u64 (ji17) 4294967295))) - (IntKind.u64.wrap ((IntKind.u64.wrap (x18_2 - 1)) * ji10)))) ji8)=j_:=⟨_,rfl⟩
            replace H:(some (IntKind.u64.wrap ((IntKind.u64.wrap (x15_18 * 4294967296))+(IntKind.u64.wrap (x18_2 - 1))),ji30))=some (r1,r2):=by first|(rw[hji30] at H;exact H)|(simp only[hji30] at H⊢;exact H)
            have hji30_:((IntKind.u64.wrap ((IntKind.u64.wrap ((IntKind.u64.wrap ((IntKind.u64.wrap ((IntKind.u64.wrap ((IntKind.u64.wrap ((Go.bits .or .u64 (ji12) (ji15)) * 4294967296))+((ji17) / 4294967296))) - (IntKind.u64.wrap (x15_18 * ji10)))) * 4294967296))+(Go.bits .and .u64 (ji17) 4294967295))) - (IntKind.u64.wrap ((IntKind.u64.wrap (x18_2 - 1)) * ji10)))) / 2 ^ min ji8.toNat 64)=ji30:=hji30;have hji30z:ji8≤64→((IntKind.u64.wrap ((IntKind.u64.wrap ((IntKind.u64.wrap ((IntKind.u64.wrap ((IntKind.u64.wrap ((IntKind.u64.wrap ((Go.bits .or .u64 (ji12) (ji15)) * 4294967296))+((ji17) / 4294967296))) - (IntKind.u64.wrap (x15_18 * ji10)))) * 4294967296))+(Go.bits .and .u64 (ji17) 4294967295))) - (IntKind.u64.wrap ((IntKind.u64.wrap (x18_2 - 1)) * ji10)))) / 2 ^ ji8.toNat)=ji30:=shr_small hji30;simp only[zNq,zOq] at H;obtain⟨rfl,rfl⟩:=H;go_wp2;repeat(go_quiet (fail);try go_wp2)
            go_ret2;exact⟨by first|rfl|(simp;done)|(simp only[←hji8,←hji10,←hji12,←hji13,←hji15,←hji17,←hji30] <;> (first|rfl|simp))|(simp[*];done),by repeat(first|exact Drawn0.refl _|apply Drawn0.step)⟩
           rw[if_neg c29] at H;exact absurd H (by simp)
          rw[if_neg c28] at H;have c28b0:decide (4294967296≤(IntKind.u64.wrap (x16_2+((ji10) / 4294967296))))=false:=zGq c28;clear c28;have H':=zA H;clear H;go_wp2;repeat(go_quiet (fail);try go_wp2)
          go_roundg kj24
          case measure=>have:=HJ18.out;have:=HK2.out;have:=HJ24.out;omega
          case rel=>exact⟨(IntKind.u64.wrap (x16_2+((ji10) / 4294967296))),(IntKind.u64.wrap (x18_2 - 1)),(by first|rfl|(simp;done)|(simp only[←hji10] <;> (first|rfl|simp))|(simp[*];done)),qF_,H',⟨by have:=HJ18.out;have:=HK2.out;have:=HJ24.out;omega⟩,by repeat(first|exact Drawn0.refl _|apply Drawn0.step)⟩
         replace c27:=Bool.eq_false_iff.mpr c27;subst c27;have H1:(if 0≤ji8 then(some (IntKind.u64.wrap ((IntKind.u64.wrap (x15_18 * 4294967296))+x18_2),shr .u64 (IntKind.u64.wrap ((IntKind.u64.wrap ((IntKind.u64.wrap ((IntKind.u64.wrap ((IntKind.u64.wrap ((IntKind.u64.wrap ((Go.bits .or .u64 (ji12) (ji15)) * 4294967296))+((ji17) / 4294967296))) - (IntKind.u64.wrap (x15_18 * ji10)))) * 4294967296))+(Go.bits .and .u64 (ji17) 4294967295))) - (IntKind.u64.wrap (x18_2 * ji10)))) ji8))else(none))=some (r1,r2):=by first|(rw[if_neg (show ¬ (false=true) by decide)] at H;exact H)|rfl
         clear H;have H:=H1;clear H1;by_cases c31:0≤ji8
         ·rw[if_pos c31] at H
          have c31b0:=eq_true c31;have c31b1:=zFq c31;clear c31;obtain⟨ji32,hji32⟩: ∃ j_:Int,(shr .u64 (IntKind.u64.wrap ((IntKind.u64.wrap ((IntKind.u64.wrap ((IntKind.u64.wrap ((IntKind.u64.wrap ((IntKind.u64.wrap ((Go.bits .or .u64 (ji12) (ji15)) * 4294967296))+((ji17) / 4294967296))) - (IntKind.u64.wrap (x15_18 * ji10)))) * 4294967296))+(Go.bits .and .u64 (ji17) 4294967295))) - (IntKind.u64.wrap (x18_2 * ji10)))) ji8)=j_:=⟨_,rfl⟩
          replace H:(some (IntKind.u64.wrap ((IntKind.u64.wrap (x15_18 * 4294967296))+x18_2),ji32))=some (r1,r2):=by first|(rw[hji32] at H;exact H)|(simp only[hji32] at H⊢;exact H)
          have hji32_:((IntKind.u64.wrap ((IntKind.u64.wrap ((IntKind.u64.wrap ((IntKind.u64.wrap ((IntKind.u64.wrap ((IntKind.u64.wrap ((Go.bits .or .u64 (ji12) (ji15)) * 4294967296))+((ji17) / 4294967296))) - (IntKind.u64.wrap (x15_18 * ji10)))) * 4294967296))+(Go.bits .and .u64 (ji17) 4294967295))) - (IntKind.u64.wrap (x18_2 * ji10)))) / 2 ^ min ji8.toNat 64)=ji32:=hji32;have hji32z:ji8≤64→((IntKind.u64.wrap ((IntKind.u64.wrap ((IntKind.u64.wrap ((IntKind.u64.wrap ((IntKind.u64.wrap ((IntKind.u64.wrap ((Go.bits .or .u64 (ji12) (ji15)) * 4294967296))+((ji17) / 4294967296))) - (IntKind.u64.wrap (x15_18 * ji10)))) * 4294967296))+(Go.bits .and .u64 (ji17) 4294967295))) - (IntKind.u64.wrap (x18_2 * ji10)))) / 2 ^ ji8.toNat)=ji32:=shr_small hji32;simp only[zNq,zOq] at H;obtain⟨rfl,rfl⟩:=H;go_wp2;repeat(go_quiet (fail);try go_wp2)
          go_ret2;exact⟨by first|rfl|(simp;done)|(simp only[←hji8,←hji10,←hji12,←hji13,←hji15,←hji17,←hji32] <;> (first|rfl|simp))|(simp[*];done),by repeat(first|exact Drawn0.refl _|apply Drawn0.step)⟩
         rw[if_neg c31] at H;exact absurd H (by simp)
  rw[if_neg c14] at H;exact absurd H (by simp)
 rw[if_neg c9] at H
 exact absurd H (by simp)
def cH.f (a0_0:Int) (a0_1:Int) (a1_0:Int) (a1_1:Int):Option (Bool):=if a0_0 > a1_0 then(some true)else(if a0_0=a1_0 then(some (decide (a0_1 > a1_1)))else(some false))
theorem cH.calls (a0_0:Int) (a0_1:Int) (a1_0:Int) (a1_1:Int) (r:Bool) (w:World) (h:cH.f a0_0 a0_1 a1_0 a1_1=some r):
  Calls Try.prog 97 #[.agg #[.int .u64 a0_0,.int .u64 a0_1],.agg #[.int .u64 a1_0,.int .u64 a1_1]] w fun e w'=>e= .returned (.bool r)∧Below w.heap.size w w':=by
 have hu121:=Try.underlying121
 have HB:=zA (Below.refl w.heap.size w)
 have H:(if a0_0 > a1_0 then(some true)else(if a0_0=a1_0 then(some (decide (a0_1 > a1_1)))else(some false)))=some r:=h
 clear h
 by_cases c3:a0_0 > a1_0
 ·rw[if_pos c3] at H
  have c3b0:decide (a1_0 < a0_0)=true:=zFq c3;clear c3;obtain rfl:=zKq H;go_enter Try.func97,Try.ntmps97;go_wp2_with (first|((with_reducible refine gate_dst (N:=2) rfl ?_);refine box_event qr (N:=2) qr (cs:= #[.int .u64 a0_0,.int .u64 a0_1]) (t:=121) qg ?_;intro gb101 hg w4 hbox hb;have BK101:=zA (hbox);have GW101:=zA ((qS:w.heap.size≤gb101));have GE101:=zA ((qS:w.heap.size≤gb101));replace HB:=zA (zV qB hb);clear hb hbox hg)|((with_reducible refine gate_dst (N:=3) rfl ?_);refine box_event qr (N:=3) qr (cs:= #[.int .u64 a1_0,.int .u64 a1_1]) (t:=121) qg ?_;intro gb102 hg w5 hbox hb;have BK102:=zA (hbox);have GW102:=zA ((qS:w.heap.size≤gb102));have GE102:=zA ((qS:w.heap.size≤gb102));replace HB:=zA (zV qB hb);have NB101_102:=zA ((by rw[hg];exact zLq (qL BK101.out):gb101≠gb102));have NB102_101:=zA ((by rw[hg];exact zMq (qL BK101.out):gb102≠gb101));replace BK101:=zA (qX BK101.out hb);clear hb hbox hg;have hnb6:=NB101_102.out;have hnc6:=NB102_101.out;obtain⟨_,_,_,_⟩:=qc2f BK101.out;obtain⟨_,_,_,_⟩:=qc2f BK102.out));go_ret;exact⟨qE,qB⟩
 rw[if_neg c3] at H
 have c3b0:decide (a1_0 < a0_0)=false:=zGq c3
 clear c3
 by_cases c9:a0_0=a1_0
 ·rw[if_pos c9] at H
  have c9b0:(a0_0==a1_0)=true:=beq_iff_eq.mpr c9;have c9b1:(a0_0 != a1_0)=false:=bne_eq_false_iff_eq.mpr c9;clear c9;obtain rfl:=zKq H;go_enter Try.func97,Try.ntmps97;go_wp2_with (first|((with_reducible refine gate_dst (N:=2) rfl ?_);refine box_event qr (N:=2) qr (cs:= #[.int .u64 a0_0,.int .u64 a0_1]) (t:=121) qg ?_;intro gb101 hg w10 hbox hb;have BK101:=zA (hbox);have GW101:=zA ((qS:w.heap.size≤gb101));have GE101:=zA ((qS:w.heap.size≤gb101));replace HB:=zA (zV qB hb);clear hb hbox hg)|((with_reducible refine gate_dst (N:=3) rfl ?_);refine box_event qr (N:=3) qr (cs:= #[.int .u64 a1_0,.int .u64 a1_1]) (t:=121) qg ?_;intro gb102 hg w11 hbox hb;have BK102:=zA (hbox);have GW102:=zA ((qS:w.heap.size≤gb102));have GE102:=zA ((qS:w.heap.size≤gb102));replace HB:=zA (zV qB hb);have NB101_102:=zA ((by rw[hg];exact zLq (qL BK101.out):gb101≠gb102));have NB102_101:=zA ((by rw[hg];exact zMq (qL BK101.out):gb102≠gb101));replace BK101:=zA (qX BK101.out hb);clear hb hbox hg;have hnb12:=NB101_102.out;have hnc12:=NB102_101.out;obtain⟨_,_,_,_⟩:=qc2f BK101.out;obtain⟨_,_,_,_⟩:=qc2f BK102.out));go_ret;exact⟨qE,qB⟩
 rw[if_neg c9] at H
 have c9b0:(a0_0==a1_0)=false:=beq_eq_false_iff_ne.mpr c9
 have c9b1:(a0_0 != a1_0)=true:=bne_iff_ne.mpr c9
 obtain rfl:=zKq H
 go_enter Try.func97,Try.ntmps97
 go_wp2_with (first|((with_reducible refine gate_dst (N:=2) rfl ?_);refine box_event qr (N:=2) qr (cs:= #[.int .u64 a0_0,.int .u64 a0_1]) (t:=121) qg ?_;intro gb101 hg w15 hbox hb;have BK101:=zA (hbox);have GW101:=zA ((qS:w.heap.size≤gb101));have GE101:=zA ((qS:w.heap.size≤gb101));replace HB:=zA (zV qB hb);clear hb hbox hg)|((with_reducible refine gate_dst (N:=3) rfl ?_);refine box_event qr (N:=3) qr (cs:= #[.int .u64 a1_0,.int .u64 a1_1]) (t:=121) qg ?_;intro gb102 hg w16 hbox hb;have BK102:=zA (hbox);have GW102:=zA ((qS:w.heap.size≤gb102));have GE102:=zA ((qS:w.heap.size≤gb102));replace HB:=zA (zV qB hb);have NB101_102:=zA ((by rw[hg];exact zLq (qL BK101.out):gb101≠gb102));have NB102_101:=zA ((by rw[hg];exact zMq (qL BK101.out):gb102≠gb101));replace BK101:=zA (qX BK101.out hb);clear hb hbox hg;have hnb17:=NB101_102.out;have hnc17:=NB102_101.out;obtain⟨_,_,_,_⟩:=qc2f BK101.out;obtain⟨_,_,_,_⟩:=qc2f BK102.out))
 go_ret
 exact⟨qE,qB⟩
def dB.f (a0:Int) (a1:Int):Option (Int × Int):=some (IntKind.u64.wrap ((IntKind.u64.wrap ((IntKind.u64.wrap ((a0 / 4294967296) *(a1 / 4294967296)))+((IntKind.u64.wrap ((IntKind.u64.wrap ((a0 / 4294967296) *(Go.bits .and .u64 a1 4294967295)))+((IntKind.u64.wrap ((Go.bits .and .u64 a0 4294967295) *(Go.bits .and .u64 a1 4294967295))) / 4294967296))) / 4294967296)))+((IntKind.u64.wrap ((Go.bits .and .u64 (IntKind.u64.wrap ((IntKind.u64.wrap ((a0 / 4294967296) *(Go.bits .and .u64 a1 4294967295)))+((IntKind.u64.wrap ((Go.bits .and .u64 a0 4294967295) *(Go.bits .and .u64 a1 4294967295))) / 4294967296))) 4294967295)+(IntKind.u64.wrap ((Go.bits .and .u64 a0 4294967295) *(a1 / 4294967296))))) / 4294967296)),IntKind.u64.wrap (a0 * a1))
theorem dB.calls (a0:Int) (a1:Int) (r1:Int) (r2:Int) (w:World) (h:dB.f a0 a1=some (r1,r2)):
  Calls Try.prog 136 #[.int .u64 a0,.int .u64 a1] w fun e w'=>e= .returned (.tuple #[.int .u64 r1,.int .u64 r2])∧Drawn0 w w':=by
 have H:(some (IntKind.u64.wrap ((IntKind.u64.wrap ((IntKind.u64.wrap ((a0 / 4294967296) *(a1 / 4294967296)))+((IntKind.u64.wrap ((IntKind.u64.wrap ((a0 / 4294967296) *(Go.bits .and .u64 a1 4294967295)))+((IntKind.u64.wrap ((Go.bits .and .u64 a0 4294967295) *(Go.bits .and .u64 a1 4294967295))) / 4294967296))) / 4294967296)))+((IntKind.u64.wrap ((Go.bits .and .u64 (IntKind.u64.wrap ((IntKind.u64.wrap ((a0 / 4294967296) *(Go.bits .and .u64 a1 4294967295)))+((IntKind.u64.wrap ((Go.bits .and .u64 a0 4294967295) *(Go.bits .and .u64 a1 4294967295))) / 4294967296))) 4294967295)+(IntKind.u64.wrap ((Go.bits .and .u64 a0 4294967295) *(a1 / 4294967296))))) / 4294967296)),IntKind.u64.wrap (a0 * a1)))=some (r1,r2):=h
 clear h
 simp only[zNq,zOq] at H
 obtain⟨rfl,rfl⟩:=H
 go_enter Try.func136,Try.ntmps136
 go_wp2
 go_ret2
 exact⟨by first|rfl|(simp;done)|(simp[*];done),by repeat(first|exact Drawn0.refl _|apply Drawn0.step)⟩
def cC.f (a0:Int) (a1:Int):Option (Int × Int):=(dB.f a0 a1).bind fun bt102=> (some (bt102.1,bt102.2))
theorem cC.calls (a0:Int) (a1:Int) (r1:Int) (r2:Int) (w:World) (h:cC.f a0 a1=some (r1,r2)):
  Calls Try.prog 98 #[.int .u64 a0,.int .u64 a1] w fun e w'=>e= .returned (.agg #[.int .u64 r1,.int .u64 r2])∧Below w.heap.size w w':=by
 have hu121:=Try.underlying121
 have HB:=zA (Below.refl w.heap.size w)
 have H:((dB.f a0 a1).bind fun bt102=> (some (bt102.1,bt102.2)))=some (r1,r2):=h
 clear h
 obtain⟨⟨t102,t103⟩,A3,H⟩:=qD_ H
 (try dsimp only at H)
 simp only[zNq,zOq] at H
 obtain⟨rfl,rfl⟩:=H
 go_enter Try.func98,Try.ntmps98
 go_wp2_with (first|((with_reducible refine gate_dst (N:=4) rfl ?_);refine box_event qr (N:=4) qr (cs:= #[.int .u64 0,.int .u64 0]) (t:=121) qg ?_;intro gb101 hg w4 hbox hb;have BK101:=zA (hbox);have GW101:=zA ((qS:w.heap.size≤gb101));have GE101:=zA ((qS:w.heap.size≤gb101));replace HB:=zA (zV qB hb);clear hb hbox hg)|((with_reducible refine zJq (f:=136) rfl ?_);refine goesL_ (some 10) rfl rfl Try.func136 (by kernel_rfl) rfl #[.int .u64 a0,.int .u64 a1] rfl qG ?_;(with_reducible refine(dB.calls a0 a1 t102 t103 _ A3.out).mono ?_);rintro e w' ⟨rfl,⟨nd,rfl⟩⟩;refine⟨_,rfl,?_⟩;(try(rw[drewN_self w4];generalize hq_:World.drewN w4 _=w4;have n0_:Aside0 (w4.heap[gb101]? =some (.cells #[.int .u64 0,.int .u64 0] 121 (0,0))):=⟨by rw[←hq_];exact(qW BK101.out)⟩;have n1_:Aside0 (Below w.heap.size w w4):=⟨by rw[←hq_];exact qB⟩;clear BK101 HB hq_;have BK101:=n0_;have HB:=n1_;clear n0_ n1_));obtain⟨_,_,_,_⟩:=qc2f BK101.out))
 refine bodyPost_ret (results_cell_row rfl _ _ gb101 121 #[.int .u64 t102,.int .u64 t103] (0,0) _ rfl (qV BK101.out) Try.underlying121 rfl (by kernel_rfl)) rfl ?_
 exact⟨qE,qB⟩
def bP.f (k:Nat) (a0:Int) (a1:Int) (a2:Int):Option (Int × Int × Int):=if a2 < 1 then(some (0,0,2))else(if a0 < 0 then(some (0,0,8))else(if a1 < 0 then(some (0,0,8))else((bK.f a0).bind fun t101=> (if t101=true then((bK.f a1).bind fun t102=> (if t102=true then((bK.f a2).bind fun t103=> (if t103=true then((cC.f (IntKind.u64.wrap (a0)) (IntKind.u64.wrap (a1))).bind fun bt104=> ((cC.f (IntKind.u64.wrap (a2)) 1000000000001).bind fun bt107=> ((cH.f bt104.1 bt104.2 bt107.1 bt107.2).bind fun t109=> (if t109=true then(some (0,0,8))else(if bt104.1≥(IntKind.u64.wrap (a2))then(some (0,0,8))else((aQ.f k bt104.1 bt104.2 (IntKind.u64.wrap (a2))).bind fun bt110=> (some (wrap64 (bt110.1),wrap64 (bt110.2),0))))))))else(some (0,0,8))))else(some (0,0,8))))else(some (0,0,8))))))
theorem bP.mono: ∀ a0 a1 a2 k,LeO (bP.f k a0 a1 a2) (bP.f (k+1) a0 a1 a2):=by
  intro a0 a1 a2 k
  unfold bP.f
  repeat' (with_reducible first|exact aQ.mono _ _ _ _|exact LeO.refl _|exact LeO.none _|refine LeO.ite ?_ ?_|refine LeO.bind ?_ (fun _=>?_))
def bP.T6:Bool × List (List Nat × List Nat):=(true,[([],[]),([],[]),([1],[1]),([2],[2]),([0,3,3],[0,3]),([4,4],[4]),([5],[5]),([6,5],[5,6]),([5],[5]),([8,5],[5,8]),([7,9,5],[5,7,9]),([5,10],[5,10])])
def bP.B6:List Nat:=[0,0,2,6,15,31,63,127,63,319,1023,2047]
theorem bP.tab6:rtab .any (opsOf Try.f100 6)=bP.T6:=by kernel_rfl
theorem bP.bits6:waitsOk bP.T6.2 bP.B6=true:=by kernel_rfl
theorem bP.calls (k:Nat) (a0:Int) (a1:Int) (a2:Int) (r1:Int) (r2:Int) (r3:Int) (w:World) (h:bP.f k a0 a1 a2=some (r1,r2,r3)):
  Calls Try.prog 100 #[.int .i64 a0,.int .i64 a1,.int .i64 a2] w fun e w'=>e= .returned (.tuple #[.int .i64 r1,.int .i64 r2,.int .i64 r3])∧Below w.heap.size w w':=by
 have hu121:=Try.underlying121
 have HB:=zA (Below.refl w.heap.size w)
 have H:(if a2 < 1 then(some (0,0,2))else(if a0 < 0 then(some (0,0,8))else(if a1 < 0 then(some (0,0,8))else((bK.f a0).bind fun t101=> (if t101=true then((bK.f a1).bind fun t102=> (if t102=true then((bK.f a2).bind fun t103=> (if t103=true then((cC.f (IntKind.u64.wrap (a0)) (IntKind.u64.wrap (a1))).bind fun bt104=> ((cC.f (IntKind.u64.wrap (a2)) 1000000000001).bind fun bt107=> ((cH.f bt104.1 bt104.2 bt107.1 bt107.2).bind fun t109=> (if t109=true then(some (0,0,8))else(if bt104.1≥(IntKind.u64.wrap (a2))then(some (0,0,8))else((aQ.f k bt104.1 bt104.2 (IntKind.u64.wrap (a2))).bind fun bt110=> (some (wrap64 (bt110.1),wrap64 (bt110.2),0))))))))else(some (0,0,8))))else(some (0,0,8))))else(some (0,0,8)))))))=some (r1,r2,r3):=h
 clear h
 by_cases c4:a2 < 1
 ·rw[if_pos c4] at H
  have c4b0:=zFq c4;clear c4;simp only[zNq,zOq] at H;obtain⟨rfl,rfl,rfl⟩:=H;go_enter Try.func100,Try.ntmps100;go_wp2;go_ret3;exact⟨qE,qB⟩
 rw[if_neg c4] at H
 have c4b0:=zGq c4
 clear c4
 by_cases c5:a0 < 0
 ·rw[if_pos c5] at H
  have c5b0:=zFq c5;clear c5;simp only[zNq,zOq] at H;obtain⟨rfl,rfl,rfl⟩:=H;go_enter Try.func100,Try.ntmps100;go_wp2;go_ret3;exact⟨qE,qB⟩
 rw[if_neg c5] at H
 have c5b0:=zGq c5
 clear c5
 by_cases c6:a1 < 0
 ·rw[if_pos c6] at H
  have c6b0:=zFq c6;clear c6;simp only[zNq,zOq] at H;obtain⟨rfl,rfl,rfl⟩:=H;go_enter Try.func100,Try.ntmps100;go_wp2;go_ret3;exact⟨qE,qB⟩
 rw[if_neg c6] at H
 have c6b0:=zGq c6
 clear c6
 obtain⟨t101,A7,H⟩:=qD_ H
 (try dsimp only at H)
 by_cases c8:t101=true
 ·subst c8
  have H1:((bK.f a1).bind fun t102=> (if t102=true then((bK.f a2).bind fun t103=> (if t103=true then((cC.f (IntKind.u64.wrap (a0)) (IntKind.u64.wrap (a1))).bind fun bt104=> ((cC.f (IntKind.u64.wrap (a2)) 1000000000001).bind fun bt107=> ((cH.f bt104.1 bt104.2 bt107.1 bt107.2).bind fun t109=> (if t109=true then(some (0,0,8))else(if bt104.1≥(IntKind.u64.wrap (a2))then(some (0,0,8))else((aQ.f k bt104.1 bt104.2 (IntKind.u64.wrap (a2))).bind fun bt110=> (some (wrap64 (bt110.1),wrap64 (bt110.2),0))))))))else(some (0,0,8))))else(some (0,0,8))))=some (r1,r2,r3):=by first|(rw[if_pos rfl] at H;exact H)|rfl
  clear H;have H:=H1;clear H1;obtain⟨t102,A9,H⟩:=qD_ H;(try dsimp only at H);by_cases c10:t102=true
  ·subst c10
   have H1:((bK.f a2).bind fun t103=> (if t103=true then((cC.f (IntKind.u64.wrap (a0)) (IntKind.u64.wrap (a1))).bind fun bt104=> ((cC.f (IntKind.u64.wrap (a2)) 1000000000001).bind fun bt107=> ((cH.f bt104.1 bt104.2 bt107.1 bt107.2).bind fun t109=> (if t109=true then(some (0,0,8))else(if bt104.1≥(IntKind.u64.wrap (a2))then(some (0,0,8))else((aQ.f k bt104.1 bt104.2 (IntKind.u64.wrap (a2))).bind fun bt110=> (some (wrap64 (bt110.1),wrap64 (bt110.2),0))))))))else(some (0,0,8))))=some (r1,r2,r3):=by first|(rw[if_pos rfl] at H;exact H)|rfl
   clear H;have H:=H1;clear H1;obtain⟨t103,A11,H⟩:=qD_ H;(try dsimp only at H);by_cases c12:t103=true
   ·subst c12
    have H1:((cC.f (IntKind.u64.wrap (a0)) (IntKind.u64.wrap (a1))).bind fun bt104=> ((cC.f (IntKind.u64.wrap (a2)) 1000000000001).bind fun bt107=> ((cH.f bt104.1 bt104.2 bt107.1 bt107.2).bind fun t109=> (if t109=true then(some (0,0,8))else(if bt104.1≥(IntKind.u64.wrap (a2))then(some (0,0,8))else((aQ.f k bt104.1 bt104.2 (IntKind.u64.wrap (a2))).bind fun bt110=> (some (wrap64 (bt110.1),wrap64 (bt110.2),0))))))))=some (r1,r2,r3):=by first|(rw[if_pos rfl] at H;exact H)|rfl
    clear H;have H:=H1;clear H1;obtain⟨⟨t104,t105⟩,A13,H⟩:=qD_ H;(try dsimp only at H);obtain⟨⟨t107,t108⟩,A14,H⟩:=qD_ H;(try dsimp only at H);obtain⟨t109,A15,H⟩:=qD_ H;(try dsimp only at H);by_cases c16:t109=true
    ·subst c16
     have H1:(some (0,0,8))=some (r1,r2,r3):=by first|(rw[if_pos rfl] at H;exact H)|rfl
     clear H;have H:=H1;clear H1;simp only[zNq,zOq] at H;obtain⟨rfl,rfl,rfl⟩:=H;go_enter Try.func100,Try.ntmps100;try go_wp2_with (first|(go_at_call 31;(with_reducible refine(bK.calls a0 true _ A7.out).mono ?_);rintro e w' ⟨rfl,⟨nd,rfl⟩⟩)|(go_at_call 31;(with_reducible refine(bK.calls a1 true _ A9.out).mono ?_);rintro e w' ⟨rfl,⟨nd,rfl⟩⟩)|(go_at_call 31;(with_reducible refine(bK.calls a2 true _ A11.out).mono ?_);rintro e w' ⟨rfl,⟨nd,rfl⟩⟩)|((with_reducible refine zJq (f:=98) rfl ?_);refine goesL_ (some 41) rfl rfl Try.func98 (by kernel_rfl) rfl #[.int .u64 (IntKind.u64.wrap (a0)),.int .u64 (IntKind.u64.wrap (a1))] rfl qG ?_;(with_reducible refine(cC.calls (IntKind.u64.wrap (a0)) (IntKind.u64.wrap (a1)) t104 t105 _ A13.out).mono ?_);rintro e w17 ⟨rfl,hb⟩;refine⟨_,rfl,?_⟩;replace HB:=zA (zV qB hb);(try clear hb))|((with_reducible refine gate_dst (N:=9) rfl ?_);refine box_event qr (N:=9) qr (cs:= #[.int .u64 0,.int .u64 0]) (t:=121) qg ?_;intro gb106 hg w18 hbox hb;have BK106:=zA (hbox);have GW106:=zA ((qS:w.heap.size≤gb106));have GE106:=zA ((qS:w.heap.size≤gb106));replace HB:=zA (zV qB hb);clear hb hbox hg;obtain⟨_,_,_,_⟩:=qc2f BK106.out))
     have n0_:Aside0 (((w18.setCell ⟨gb106,0,none⟩ (.int .u64 t104)).setCell ⟨gb106,1,none⟩ (.int .u64 t105)).heap[gb106]? =some (.cells #[.int .u64 t104,.int .u64 t105] 121 (0,0))):=⟨by(with_reducible repeat(first|refine zY ?_ _|refine zAq ?_|refine zZ ?_ _));apply qP2;exact BK106.out⟩
     have n1_:Aside0 (Below w.heap.size w ((w18.setCell ⟨gb106,0,none⟩ (.int .u64 t104)).setCell ⟨gb106,1,none⟩ (.int .u64 t105))):=⟨qB⟩
     (try clear BK106);(try clear HB)
     generalize ((w18.setCell ⟨gb106,0,none⟩ (.int .u64 t104)).setCell ⟨gb106,1,none⟩ (.int .u64 t105))=w20 at n0_ n1_⊢;have BK106:=n0_;have HB:=n1_;clear n0_ n1_;replace BK106:=zA (zAq BK106.out);replace HB:=zA (zC HB.out);refine start_ (n:=12) (S:=fun w'=>w'.cell? ⟨gb106,0,none⟩=some (.int .u64 t104)∧w'.cell? ⟨gb106,1,none⟩=some (.int .u64 t105)) (ds:=[]) #[Z,Z,Z,Z,Z,Z,Z,Z,Z,Z,Z,Z] (by kernel_rfl) rfl rfl ⟨(zF BK106.out 0).trans rfl,(zF BK106.out 1).trans rfl⟩ (fun hHeld=>?_);refine with_tabW bP.tab6 bP.bits6 (fun HT_ HW_=>?_);generalize w20.drew=w21 at BK106 HB hHeld⊢;refine pure_ (i:=1) (N:=some 43) #[Z,I,Z,Z,Z,Z,Z,Z,Z,Z,Z,Z] rfl rfl (any_of HT_.out (by kernel_rfl)) (fun _ _ _ h=>h) (Or.inl ⟨by rfl,qy⟩) qz ?_;refine pure_ (i:=2) (N:=some 44) #[Z,I,I,Z,Z,Z,Z,Z,Z,Z,Z,Z] rfl rfl (any_of HT_.out (by kernel_rfl)) (fun _ _ _ h=>h) (Or.inl ⟨by rfl,qy⟩) qz ?_;refine take_ (i:=0) (N:=some 42) (v:=?_) (a':=?_) #[I,I,I,Z,Z,Z,Z,Z,Z,Z,Z,Z] rfl rfl (take_ofW HT_.out HW_.out (by kernel_rfl)) (fun _ _ _ h=>h) (Or.inl ⟨by rfl,?_⟩) hHeld ?_ ?_;rotate_left
     ·rintro w' ⟨s0,s1⟩
      go_simp;with_reducible rfl
     rotate_left
     ·simp only[Act.put,zH,zI,zJ,i64_w,i32_w]
      rfl
     refine one_ (i:=3) (N:=some 45) #[I,I,I,I,Z,Z,Z,Z,Z,Z,Z,Z] rfl rfl (one_of HT_.out (by kernel_rfl)) (by decide) (fun K hK=>?_);refine goes_ Try.func98 (by kernel_rfl) rfl #[.int .u64 (IntKind.u64.wrap (a2)),.int .u64 1000000000001] (by rfl) rfl rfl qG ?_;with_reducible refine(cC.calls (IntKind.u64.wrap (a2)) 1000000000001 t107 t108 _ A14.out).mono ?_
     rintro e w22 ⟨rfl,hb⟩;refine⟨_,rfl,?_⟩;replace BK106:=zA (qX BK106.out hb);replace HB:=zA (zV qB hb);(try clear hb);refine hK.out _ _ ⟨(zF BK106.out 0).trans rfl,(zF BK106.out 1).trans rfl⟩ (fun hHeld=>?_);clear hK K;refine norm_ (a':=?_) ?_ ?_;rotate_left
     ·show Act.put _ (some 45) _=_
      simp only[Act.put,zH,zI,zJ,i64_w,i32_w];rfl
     refine one_ (i:=4) (N:=some 46) #[I,I,I,I,I,Z,Z,Z,Z,Z,Z,Z] rfl rfl (one_of HT_.out (by kernel_rfl)) (by decide) (fun K hK=>?_);refine goes_ Try.func97 (by kernel_rfl) rfl #[.agg #[.int .u64 t104,.int .u64 t105],.agg #[.int .u64 t107,.int .u64 t108]] (by rfl) rfl rfl qG ?_;with_reducible refine(cH.calls t104 t105 t107 t108 true _ A15.out).mono ?_
     rintro e w23 ⟨rfl,hb⟩;refine⟨_,rfl,?_⟩;replace BK106:=zA (qX BK106.out hb);replace HB:=zA (zV qB hb);(try clear hb);refine hK.out _ _ ⟨(zF BK106.out 0).trans rfl,(zF BK106.out 1).trans rfl⟩ (fun hHeld=>?_);clear hK K;refine norm_ (a':=?_) ?_ ?_;rotate_left
     ·show Act.put _ (some 46) _=_
      simp only[Act.put,zH,zI,zJ,i64_w,i32_w];rfl
     refine pure_ (i:=5) (N:=some 47) #[I,I,I,I,I,I,Z,Z,Z,Z,Z,Z] rfl rfl (any_of HT_.out (by kernel_rfl)) (fun _ _ _ h=>h) (Or.inl ⟨by rfl,qy⟩) qz ?_;refine pure_ (i:=6) (N:=some 48) (v:=undef) (a':=?_) #[I,I,I,I,I,I,I,Z,Z,Z,Z,Z] rfl rfl (any_of HT_.out (by kernel_rfl)) (fun _ _ _ h=>h) (Or.inr ⟨by rfl,rfl⟩) ?_ ?_;rotate_left
     ·simp only[Act.put,zH,zI,zJ,i64_w,i32_w]
      rfl
     refine pure_ (i:=7) (N:=some 49) (v:=undef) (a':=?_) #[I,I,I,I,I,I,I,I,Z,Z,Z,Z] rfl rfl (any_of HT_.out (by kernel_rfl)) (fun _ _ _ h=>h) (Or.inr ⟨by rfl,rfl⟩) ?_ ?_;rotate_left
     ·simp only[Act.put,zH,zI,zJ,i64_w,i32_w]
      rfl
     refine pure_ (i:=8) (N:=some 50) (v:=undef) (a':=?_) #[I,I,I,I,I,I,I,I,I,Z,Z,Z] rfl rfl (any_of HT_.out (by kernel_rfl)) (fun _ _ _ h=>h) (Or.inr ⟨by rfl,rfl⟩) ?_ ?_;rotate_left
     ·simp only[Act.put,zH,zI,zJ,i64_w,i32_w]
      rfl
     refine pure_ (i:=9) (N:=some 51) (v:=undef) (a':=?_) #[I,I,I,I,I,I,I,I,I,I,Z,Z] rfl rfl (any_of HT_.out (by kernel_rfl)) (fun _ _ _ h=>h) (Or.inr ⟨by rfl,rfl⟩) ?_ ?_;rotate_left
     ·simp only[Act.put,zH,zI,zJ,i64_w,i32_w]
      rfl
     refine pure_ (i:=10) (N:=some 52) (v:=undef) (a':=?_) #[I,I,I,I,I,I,I,I,I,I,I,Z] rfl rfl (any_of HT_.out (by kernel_rfl)) (fun _ _ _ h=>h) (Or.inr ⟨by rfl,rfl⟩) ?_ ?_;rotate_left
     ·simp only[Act.put,zH,zI,zJ,i64_w,i32_w]
      rfl
     refine pure_ (i:=11) (N:=some 53) #[I,I,I,I,I,I,I,I,I,I,I,I] rfl rfl (any_of HT_.out (by kernel_rfl)) (fun _ _ _ h=>h) (Or.inl ⟨by rfl,qy⟩) qz ?_;refine done_ (done_of HT_.out (by kernel_rfl)) ?_;try go_wp2
     go_ret3;exact⟨qE,qB⟩
    replace c16:=Bool.eq_false_iff.mpr c16;subst c16;have H1:(if t104≥(IntKind.u64.wrap (a2))then(some (0,0,8))else((aQ.f k t104 t105 (IntKind.u64.wrap (a2))).bind fun bt110=> (some (wrap64 (bt110.1),wrap64 (bt110.2),0))))=some (r1,r2,r3):=by first|(rw[if_neg (show ¬ (false=true) by decide)] at H;exact H)|rfl
    clear H;have H:=H1;clear H1;by_cases c24:t104≥(IntKind.u64.wrap (a2))
    ·rw[if_pos c24] at H
     have c24b0:decide ((IntKind.u64.wrap (a2))≤t104)=true:=zFq c24;clear c24;simp only[zNq,zOq] at H;obtain⟨rfl,rfl,rfl⟩:=H;go_enter Try.func100,Try.ntmps100;try go_wp2_with (first|(go_at_call 31;(with_reducible refine(bK.calls a0 true _ A7.out).mono ?_);rintro e w' ⟨rfl,⟨nd,rfl⟩⟩)|(go_at_call 31;(with_reducible refine(bK.calls a1 true _ A9.out).mono ?_);rintro e w' ⟨rfl,⟨nd,rfl⟩⟩)|(go_at_call 31;(with_reducible refine(bK.calls a2 true _ A11.out).mono ?_);rintro e w' ⟨rfl,⟨nd,rfl⟩⟩)|((with_reducible refine zJq (f:=98) rfl ?_);refine goesL_ (some 41) rfl rfl Try.func98 (by kernel_rfl) rfl #[.int .u64 (IntKind.u64.wrap (a0)),.int .u64 (IntKind.u64.wrap (a1))] rfl qG ?_;(with_reducible refine(cC.calls (IntKind.u64.wrap (a0)) (IntKind.u64.wrap (a1)) t104 t105 _ A13.out).mono ?_);rintro e w25 ⟨rfl,hb⟩;refine⟨_,rfl,?_⟩;replace HB:=zA (zV qB hb);(try clear hb))|((with_reducible refine gate_dst (N:=9) rfl ?_);refine box_event qr (N:=9) qr (cs:= #[.int .u64 0,.int .u64 0]) (t:=121) qg ?_;intro gb106 hg w26 hbox hb;have BK106:=zA (hbox);have GW106:=zA ((qS:w.heap.size≤gb106));have GE106:=zA ((qS:w.heap.size≤gb106));replace HB:=zA (zV qB hb);clear hb hbox hg;obtain⟨_,_,_,_⟩:=qc2f BK106.out))
     have n0_:Aside0 (((w26.setCell ⟨gb106,0,none⟩ (.int .u64 t104)).setCell ⟨gb106,1,none⟩ (.int .u64 t105)).heap[gb106]? =some (.cells #[.int .u64 t104,.int .u64 t105] 121 (0,0))):=⟨by(with_reducible repeat(first|refine zY ?_ _|refine zAq ?_|refine zZ ?_ _));apply qP2;exact BK106.out⟩
     have n1_:Aside0 (Below w.heap.size w ((w26.setCell ⟨gb106,0,none⟩ (.int .u64 t104)).setCell ⟨gb106,1,none⟩ (.int .u64 t105))):=⟨qB⟩
     (try clear BK106);(try clear HB)
     generalize ((w26.setCell ⟨gb106,0,none⟩ (.int .u64 t104)).setCell ⟨gb106,1,none⟩ (.int .u64 t105))=w28 at n0_ n1_⊢;have BK106:=n0_;have HB:=n1_;clear n0_ n1_;replace BK106:=zA (zAq BK106.out);replace HB:=zA (zC HB.out);refine start_ (n:=12) (S:=fun w'=>w'.cell? ⟨gb106,0,none⟩=some (.int .u64 t104)∧w'.cell? ⟨gb106,1,none⟩=some (.int .u64 t105)) (ds:=[]) #[Z,Z,Z,Z,Z,Z,Z,Z,Z,Z,Z,Z] (by kernel_rfl) rfl rfl ⟨(zF BK106.out 0).trans rfl,(zF BK106.out 1).trans rfl⟩ (fun hHeld=>?_);refine with_tabW bP.tab6 bP.bits6 (fun HT_ HW_=>?_);generalize w28.drew=w29 at BK106 HB hHeld⊢;refine pure_ (i:=1) (N:=some 43) #[Z,I,Z,Z,Z,Z,Z,Z,Z,Z,Z,Z] rfl rfl (any_of HT_.out (by kernel_rfl)) (fun _ _ _ h=>h) (Or.inl ⟨by rfl,qy⟩) qz ?_;refine pure_ (i:=2) (N:=some 44) #[Z,I,I,Z,Z,Z,Z,Z,Z,Z,Z,Z] rfl rfl (any_of HT_.out (by kernel_rfl)) (fun _ _ _ h=>h) (Or.inl ⟨by rfl,qy⟩) qz ?_;refine take_ (i:=0) (N:=some 42) (v:=?_) (a':=?_) #[I,I,I,Z,Z,Z,Z,Z,Z,Z,Z,Z] rfl rfl (take_ofW HT_.out HW_.out (by kernel_rfl)) (fun _ _ _ h=>h) (Or.inl ⟨by rfl,?_⟩) hHeld ?_ ?_;rotate_left
     ·rintro w' ⟨s0,s1⟩
      go_simp;with_reducible rfl
     rotate_left
     ·simp only[Act.put,zH,zI,zJ,i64_w,i32_w]
      rfl
     refine one_ (i:=3) (N:=some 45) #[I,I,I,I,Z,Z,Z,Z,Z,Z,Z,Z] rfl rfl (one_of HT_.out (by kernel_rfl)) (by decide) (fun K hK=>?_);refine goes_ Try.func98 (by kernel_rfl) rfl #[.int .u64 (IntKind.u64.wrap (a2)),.int .u64 1000000000001] (by rfl) rfl rfl qG ?_;with_reducible refine(cC.calls (IntKind.u64.wrap (a2)) 1000000000001 t107 t108 _ A14.out).mono ?_
     rintro e w30 ⟨rfl,hb⟩;refine⟨_,rfl,?_⟩;replace BK106:=zA (qX BK106.out hb);replace HB:=zA (zV qB hb);(try clear hb);refine hK.out _ _ ⟨(zF BK106.out 0).trans rfl,(zF BK106.out 1).trans rfl⟩ (fun hHeld=>?_);clear hK K;refine norm_ (a':=?_) ?_ ?_;rotate_left
     ·show Act.put _ (some 45) _=_
      simp only[Act.put,zH,zI,zJ,i64_w,i32_w];rfl
     refine one_ (i:=4) (N:=some 46) #[I,I,I,I,I,Z,Z,Z,Z,Z,Z,Z] rfl rfl (one_of HT_.out (by kernel_rfl)) (by decide) (fun K hK=>?_);refine goes_ Try.func97 (by kernel_rfl) rfl #[.agg #[.int .u64 t104,.int .u64 t105],.agg #[.int .u64 t107,.int .u64 t108]] (by rfl) rfl rfl qG ?_;with_reducible refine(cH.calls t104 t105 t107 t108 false _ A15.out).mono ?_
     rintro e w31 ⟨rfl,hb⟩;refine⟨_,rfl,?_⟩;replace BK106:=zA (qX BK106.out hb);replace HB:=zA (zV qB hb);(try clear hb);refine hK.out _ _ ⟨(zF BK106.out 0).trans rfl,(zF BK106.out 1).trans rfl⟩ (fun hHeld=>?_);clear hK K;refine norm_ (a':=?_) ?_ ?_;rotate_left
     ·show Act.put _ (some 46) _=_
      simp only[Act.put,zH,zI,zJ,i64_w,i32_w];rfl
     refine pure_ (i:=5) (N:=some 47) #[I,I,I,I,I,I,Z,Z,Z,Z,Z,Z] rfl rfl (any_of HT_.out (by kernel_rfl)) (fun _ _ _ h=>h) (Or.inl ⟨by rfl,qy⟩) qz ?_;refine pure_ (i:=6) (N:=some 48) #[I,I,I,I,I,I,I,Z,Z,Z,Z,Z] rfl rfl (any_of HT_.out (by kernel_rfl)) (fun _ _ _ h=>h) (Or.inl ⟨by rfl,qy⟩) qz ?_;refine pure_ (i:=8) (N:=some 50) #[I,I,I,I,I,I,I,Z,I,Z,Z,Z] rfl rfl (any_of HT_.out (by kernel_rfl)) (fun _ _ _ h=>h) (Or.inl ⟨by rfl,qy⟩) qz ?_;refine pure_ (i:=9) (N:=some 51) #[I,I,I,I,I,I,I,Z,I,I,Z,Z] rfl rfl (any_of HT_.out (by kernel_rfl)) (fun _ _ _ h=>h) (Or.inl ⟨by rfl,qy⟩) qz ?_;refine take_ (i:=7) (N:=some 49) (v:=?_) (a':=?_) #[I,I,I,I,I,I,I,I,I,I,Z,Z] rfl rfl (take_ofW HT_.out HW_.out (by kernel_rfl)) (fun _ _ _ h=>h) (Or.inl ⟨by rfl,?_⟩) hHeld ?_ ?_;rotate_left
     ·rintro w' ⟨s0,s1⟩
      go_simp;with_reducible rfl
     rotate_left
     ·simp only[Act.put,zH,zI,zJ,i64_w,i32_w]
      rfl
     refine pure_ (i:=10) (N:=some 52) #[I,I,I,I,I,I,I,I,I,I,I,Z] rfl rfl (any_of HT_.out (by kernel_rfl)) (fun _ _ _ h=>h) (Or.inl ⟨by rfl,qy⟩) qz ?_;refine pure_ (i:=11) (N:=some 53) #[I,I,I,I,I,I,I,I,I,I,I,I] rfl rfl (any_of HT_.out (by kernel_rfl)) (fun _ _ _ h=>h) (Or.inl ⟨by rfl,qy⟩) qz ?_;refine done_ (done_of HT_.out (by kernel_rfl)) ?_;try go_wp2
     go_ret3;exact⟨qE,qB⟩
    rw[if_neg c24] at H;have c24b0:decide ((IntKind.u64.wrap (a2))≤t104)=false:=zGq c24;clear c24;obtain⟨⟨t110,t111⟩,A32,H⟩:=qD_ H;(try dsimp only at H);simp only[zNq,zOq] at H;obtain⟨rfl,rfl,rfl⟩:=H;go_enter Try.func100,Try.ntmps100;try go_wp2_with (first|(go_at_call 31;(with_reducible refine(bK.calls a0 true _ A7.out).mono ?_);rintro e w' ⟨rfl,⟨nd,rfl⟩⟩)|(go_at_call 31;(with_reducible refine(bK.calls a1 true _ A9.out).mono ?_);rintro e w' ⟨rfl,⟨nd,rfl⟩⟩)|(go_at_call 31;(with_reducible refine(bK.calls a2 true _ A11.out).mono ?_);rintro e w' ⟨rfl,⟨nd,rfl⟩⟩)|((with_reducible refine zJq (f:=98) rfl ?_);refine goesL_ (some 41) rfl rfl Try.func98 (by kernel_rfl) rfl #[.int .u64 (IntKind.u64.wrap (a0)),.int .u64 (IntKind.u64.wrap (a1))] rfl qG ?_;(with_reducible refine(cC.calls (IntKind.u64.wrap (a0)) (IntKind.u64.wrap (a1)) t104 t105 _ A13.out).mono ?_);rintro e w33 ⟨rfl,hb⟩;refine⟨_,rfl,?_⟩;replace HB:=zA (zV qB hb);(try clear hb))|((with_reducible refine gate_dst (N:=9) rfl ?_);refine box_event qr (N:=9) qr (cs:= #[.int .u64 0,.int .u64 0]) (t:=121) qg ?_;intro gb106 hg w34 hbox hb;have BK106:=zA (hbox);have GW106:=zA ((qS:w.heap.size≤gb106));have GE106:=zA ((qS:w.heap.size≤gb106));replace HB:=zA (zV qB hb);clear hb hbox hg;obtain⟨_,_,_,_⟩:=qc2f BK106.out))
    have n0_:Aside0 (((w34.setCell ⟨gb106,0,none⟩ (.int .u64 t104)).setCell ⟨gb106,1,none⟩ (.int .u64 t105)).heap[gb106]? =some (.cells #[.int .u64 t104,.int .u64 t105] 121 (0,0))):=⟨by(with_reducible repeat(first|refine zY ?_ _|refine zAq ?_|refine zZ ?_ _));apply qP2;exact BK106.out⟩
    have n1_:Aside0 (Below w.heap.size w ((w34.setCell ⟨gb106,0,none⟩ (.int .u64 t104)).setCell ⟨gb106,1,none⟩ (.int .u64 t105))):=⟨qB⟩
    (try clear BK106);(try clear HB)
    generalize ((w34.setCell ⟨gb106,0,none⟩ (.int .u64 t104)).setCell ⟨gb106,1,none⟩ (.int .u64 t105))=w36 at n0_ n1_⊢;have BK106:=n0_;have HB:=n1_;clear n0_ n1_;replace BK106:=zA (zAq BK106.out);replace HB:=zA (zC HB.out);refine start_ (n:=12) (S:=fun w'=>w'.cell? ⟨gb106,0,none⟩=some (.int .u64 t104)∧w'.cell? ⟨gb106,1,none⟩=some (.int .u64 t105)) (ds:=[]) #[Z,Z,Z,Z,Z,Z,Z,Z,Z,Z,Z,Z] (by kernel_rfl) rfl rfl ⟨(zF BK106.out 0).trans rfl,(zF BK106.out 1).trans rfl⟩ (fun hHeld=>?_);refine with_tabW bP.tab6 bP.bits6 (fun HT_ HW_=>?_);generalize w36.drew=w37 at BK106 HB hHeld⊢;refine pure_ (i:=1) (N:=some 43) #[Z,I,Z,Z,Z,Z,Z,Z,Z,Z,Z,Z] rfl rfl (any_of HT_.out (by kernel_rfl)) (fun _ _ _ h=>h) (Or.inl ⟨by rfl,qy⟩) qz ?_;refine pure_ (i:=2) (N:=some 44) #[Z,I,I,Z,Z,Z,Z,Z,Z,Z,Z,Z] rfl rfl (any_of HT_.out (by kernel_rfl)) (fun _ _ _ h=>h) (Or.inl ⟨by rfl,qy⟩) qz ?_;refine take_ (i:=0) (N:=some 42) (v:=?_) (a':=?_) #[I,I,I,Z,Z,Z,Z,Z,Z,Z,Z,Z] rfl rfl (take_ofW HT_.out HW_.out (by kernel_rfl)) (fun _ _ _ h=>h) (Or.inl ⟨by rfl,?_⟩) hHeld ?_ ?_;rotate_left
    ·rintro w' ⟨s0,s1⟩
     go_simp;with_reducible rfl
    rotate_left
    ·simp only[Act.put,zH,zI,zJ,i64_w,i32_w]
     rfl
    refine one_ (i:=3) (N:=some 45) #[I,I,I,I,Z,Z,Z,Z,Z,Z,Z,Z] rfl rfl (one_of HT_.out (by kernel_rfl)) (by decide) (fun K hK=>?_);refine goes_ Try.func98 (by kernel_rfl) rfl #[.int .u64 (IntKind.u64.wrap (a2)),.int .u64 1000000000001] (by rfl) rfl rfl qG ?_;with_reducible refine(cC.calls (IntKind.u64.wrap (a2)) 1000000000001 t107 t108 _ A14.out).mono ?_
    rintro e w38 ⟨rfl,hb⟩;refine⟨_,rfl,?_⟩;replace BK106:=zA (qX BK106.out hb);replace HB:=zA (zV qB hb);(try clear hb);refine hK.out _ _ ⟨(zF BK106.out 0).trans rfl,(zF BK106.out 1).trans rfl⟩ (fun hHeld=>?_);clear hK K;refine norm_ (a':=?_) ?_ ?_;rotate_left
    ·show Act.put _ (some 45) _=_
     simp only[Act.put,zH,zI,zJ,i64_w,i32_w];rfl
    refine one_ (i:=4) (N:=some 46) #[I,I,I,I,I,Z,Z,Z,Z,Z,Z,Z] rfl rfl (one_of HT_.out (by kernel_rfl)) (by decide) (fun K hK=>?_);refine goes_ Try.func97 (by kernel_rfl) rfl #[.agg #[.int .u64 t104,.int .u64 t105],.agg #[.int .u64 t107,.int .u64 t108]] (by rfl) rfl rfl qG ?_;with_reducible refine(cH.calls t104 t105 t107 t108 false _ A15.out).mono ?_
    rintro e w39 ⟨rfl,hb⟩;refine⟨_,rfl,?_⟩;replace BK106:=zA (qX BK106.out hb);replace HB:=zA (zV qB hb);(try clear hb);refine hK.out _ _ ⟨(zF BK106.out 0).trans rfl,(zF BK106.out 1).trans rfl⟩ (fun hHeld=>?_);clear hK K;refine norm_ (a':=?_) ?_ ?_;rotate_left
    ·show Act.put _ (some 46) _=_
     simp only[Act.put,zH,zI,zJ,i64_w,i32_w];rfl
    refine pure_ (i:=5) (N:=some 47) #[I,I,I,I,I,I,Z,Z,Z,Z,Z,Z] rfl rfl (any_of HT_.out (by kernel_rfl)) (fun _ _ _ h=>h) (Or.inl ⟨by rfl,qy⟩) qz ?_;refine pure_ (i:=6) (N:=some 48) #[I,I,I,I,I,I,I,Z,Z,Z,Z,Z] rfl rfl (any_of HT_.out (by kernel_rfl)) (fun _ _ _ h=>h) (Or.inl ⟨by rfl,qy⟩) qz ?_;refine pure_ (i:=8) (N:=some 50) #[I,I,I,I,I,I,I,Z,I,Z,Z,Z] rfl rfl (any_of HT_.out (by kernel_rfl)) (fun _ _ _ h=>h) (Or.inl ⟨by rfl,qy⟩) qz ?_;refine pure_ (i:=9) (N:=some 51) #[I,I,I,I,I,I,I,Z,I,I,Z,Z] rfl rfl (any_of HT_.out (by kernel_rfl)) (fun _ _ _ h=>h) (Or.inl ⟨by rfl,qy⟩) qz ?_;refine take_ (i:=7) (N:=some 49) (v:=?_) (a':=?_) #[I,I,I,I,I,I,I,I,I,I,Z,Z] rfl rfl (take_ofW HT_.out HW_.out (by kernel_rfl)) (fun _ _ _ h=>h) (Or.inl ⟨by rfl,?_⟩) hHeld ?_ ?_;rotate_left
    ·rintro w' ⟨s0,s1⟩
     go_simp;with_reducible rfl
    rotate_left
    ·simp only[Act.put,zH,zI,zJ,i64_w,i32_w]
     rfl
    refine pure_ (i:=10) (N:=some 52) #[I,I,I,I,I,I,I,I,I,I,I,Z] rfl rfl (any_of HT_.out (by kernel_rfl)) (fun _ _ _ h=>h) (Or.inl ⟨by rfl,qy⟩) qz ?_;refine pure_ (i:=11) (N:=some 53) #[I,I,I,I,I,I,I,I,I,I,I,I] rfl rfl (any_of HT_.out (by kernel_rfl)) (fun _ _ _ h=>h) (Or.inl ⟨by rfl,qy⟩) qz ?_;refine done_ (done_of HT_.out (by kernel_rfl)) ?_;obtain⟨_,_,_,_⟩:=qc2f BK106.out;try go_wp2_with (first|((with_reducible refine zJq (f:=137) rfl ?_);refine goesL_ (some 61) rfl rfl Try.func137 (by kernel_rfl) rfl #[.int .u64 t104,.int .u64 t105,.int .u64 (IntKind.u64.wrap (a2))] rfl qG ?_;(with_reducible refine(aQ.calls k t104 t105 (IntKind.u64.wrap (a2)) t110 t111 _ A32.out).mono ?_);rintro e w' ⟨rfl,⟨nd,rfl⟩⟩;refine⟨_,rfl,?_⟩))
    go_ret3;exact⟨qE,qB⟩
   replace c12:=Bool.eq_false_iff.mpr c12;subst c12;have H1:(some (0,0,8))=some (r1,r2,r3):=by first|(rw[if_neg (show ¬ (false=true) by decide)] at H;exact H)|rfl
   clear H;have H:=H1;clear H1;simp only[zNq,zOq] at H;obtain⟨rfl,rfl,rfl⟩:=H;go_enter Try.func100,Try.ntmps100;go_wp2_with (first|(go_at_call 31;(with_reducible refine(bK.calls a0 true _ A7.out).mono ?_);rintro e w' ⟨rfl,⟨nd,rfl⟩⟩)|(go_at_call 31;(with_reducible refine(bK.calls a1 true _ A9.out).mono ?_);rintro e w' ⟨rfl,⟨nd,rfl⟩⟩)|(go_at_call 31;(with_reducible refine(bK.calls a2 false _ A11.out).mono ?_);rintro e w' ⟨rfl,⟨nd,rfl⟩⟩));go_ret3;exact⟨qE,qB⟩
  replace c10:=Bool.eq_false_iff.mpr c10;subst c10;have H1:(some (0,0,8))=some (r1,r2,r3):=by first|(rw[if_neg (show ¬ (false=true) by decide)] at H;exact H)|rfl
  clear H;have H:=H1;clear H1;simp only[zNq,zOq] at H;obtain⟨rfl,rfl,rfl⟩:=H;go_enter Try.func100,Try.ntmps100;go_wp2_with (first|(go_at_call 31;(with_reducible refine(bK.calls a0 true _ A7.out).mono ?_);rintro e w' ⟨rfl,⟨nd,rfl⟩⟩)|(go_at_call 31;(with_reducible refine(bK.calls a1 false _ A9.out).mono ?_);rintro e w' ⟨rfl,⟨nd,rfl⟩⟩));go_ret3;exact⟨qE,qB⟩
 replace c8:=Bool.eq_false_iff.mpr c8
 subst c8
 have H1:(some (0,0,8))=some (r1,r2,r3):=by first|(rw[if_neg (show ¬ (false=true) by decide)] at H;exact H)|rfl
 clear H
 have H:=H1
 clear H1
 simp only[zNq,zOq] at H
 obtain⟨rfl,rfl,rfl⟩:=H
 go_enter Try.func100,Try.ntmps100
 go_wp2_with (first|(go_at_call 31;(with_reducible refine(bK.calls a0 false _ A7.out).mono ?_);rintro e w' ⟨rfl,⟨nd,rfl⟩⟩))
 go_ret3
 exact⟨qE,qB⟩
def cW.f (a0:Int):Option (Int × Int):=(bK.f a0).bind fun t101=> (if t101=true then(some (a0,0))else(some (0,8)))
theorem cW.calls (a0:Int) (r1:Int) (r2:Int) (w:World) (h:cW.f a0=some (r1,r2)):
  Calls Try.prog 96 #[.int .i64 a0] w fun e w'=>e= .returned (.tuple #[.int .i64 r1,.int .i64 r2])∧Drawn0 w w':=by
 have H:((bK.f a0).bind fun t101=> (if t101=true then(some (a0,0))else(some (0,8))))=some (r1,r2):=h
 clear h
 obtain⟨t101,A2,H⟩:=qD_ H
 (try dsimp only at H)
 by_cases c3:t101=true
 ·subst c3
  have H1:(some (a0,0))=some (r1,r2):=by first|(rw[if_pos rfl] at H;exact H)|rfl
  clear H;have H:=H1;clear H1;simp only[zNq,zOq] at H;obtain⟨rfl,rfl⟩:=H;go_enter Try.func96,Try.ntmps96;go_wp2_with (first|((with_reducible refine zJq (f:=31) rfl ?_);refine goesL_ (some 5) rfl rfl Try.func31 (by kernel_rfl) rfl #[.int .i64 a0] rfl qG ?_;(with_reducible refine(bK.calls a0 true _ A2.out).mono ?_);rintro e w' ⟨rfl,⟨nd,rfl⟩⟩;refine⟨_,rfl,?_⟩));go_ret2;exact⟨by first|rfl|(simp;done)|(simp[*];done),by repeat(first|exact Drawn0.refl _|apply Drawn0.step)⟩
 replace c3:=Bool.eq_false_iff.mpr c3
 subst c3
 have H1:(some (0,8))=some (r1,r2):=by first|(rw[if_neg (show ¬ (false=true) by decide)] at H;exact H)|rfl
 clear H
 have H:=H1
 clear H1
 simp only[zNq,zOq] at H
 obtain⟨rfl,rfl⟩:=H
 go_enter Try.func96,Try.ntmps96
 go_wp2_with (first|((with_reducible refine zJq (f:=31) rfl ?_);refine goesL_ (some 5) rfl rfl Try.func31 (by kernel_rfl) rfl #[.int .i64 a0] rfl qG ?_;(with_reducible refine(bK.calls a0 false _ A2.out).mono ?_);rintro e w' ⟨rfl,⟨nd,rfl⟩⟩;refine⟨_,rfl,?_⟩))
 go_ret2
 exact⟨by first|rfl|(simp;done)|(simp[*];done),by repeat(first|exact Drawn0.refl _|apply Drawn0.step)⟩
def cL.f (k:Nat) (a0:Int) (a1:Int) (a2:Int):Option (Int × Int):=(bP.f k a0 a1 a2).bind fun bt101=> (if bt101.2.2=0 then((cW.f bt101.1).bind fun bt104=> (some (bt104.1,bt104.2)))else(some (0,bt101.2.2)))
theorem cL.mono: ∀ a0 a1 a2 k,LeO (cL.f k a0 a1 a2) (cL.f (k+1) a0 a1 a2):=by
  intro a0 a1 a2 k
  unfold cL.f
  repeat' (with_reducible first|exact bP.mono _ _ _ _|exact LeO.refl _|exact LeO.none _|refine LeO.ite ?_ ?_|refine LeO.bind ?_ (fun _=>?_))
theorem cL.calls (k:Nat) (a0:Int) (a1:Int) (a2:Int) (r1:Int) (r2:Int) (w:World) (h:cL.f k a0 a1 a2=some (r1,r2)):
  Calls Try.prog 33 #[.int .i64 a0,.int .i64 a1,.int .i64 a2] w fun e w'=>e= .returned (.tuple #[.int .i64 r1,.int .i64 r2])∧Below w.heap.size w w':=by
 have HB:=zA (Below.refl w.heap.size w)
 have H:((bP.f k a0 a1 a2).bind fun bt101=> (if bt101.2.2=0 then((cW.f bt101.1).bind fun bt104=> (some (bt104.1,bt104.2)))else(some (0,bt101.2.2))))=some (r1,r2):=h
 clear h
 obtain⟨⟨t101,t102,t103⟩,A4,H⟩:=qD_ H
 (try dsimp only at H)
 by_cases c5:t103=0
 ·rw[if_pos c5] at H
  have c5b0:(t103==0)=true:=beq_iff_eq.mpr c5;have c5b1:(t103 != 0)=false:=bne_eq_false_iff_eq.mpr c5;clear c5;obtain⟨⟨t104,t105⟩,A6,H⟩:=qD_ H;(try dsimp only at H);simp only[zNq,zOq] at H;obtain⟨rfl,rfl⟩:=H;go_enter Try.func33,Try.ntmps33;go_wp2_with (first|((with_reducible refine zJq (f:=100) rfl ?_);refine goesL_ (some 15) rfl rfl Try.func100 (by kernel_rfl) rfl #[.int .i64 a0,.int .i64 a1,.int .i64 a2] rfl qG ?_;(with_reducible refine(bP.calls k a0 a1 a2 t101 t102 t103 _ A4.out).mono ?_);rintro e w7 ⟨rfl,hb⟩;refine⟨_,rfl,?_⟩;replace HB:=zA (zV qB hb);(try clear hb))|((with_reducible refine zJq (f:=96) rfl ?_);refine goesL_ (some 23) rfl rfl Try.func96 (by kernel_rfl) rfl #[.int .i64 t101] rfl qG ?_;(with_reducible refine(cW.calls t101 t104 t105 _ A6.out).mono ?_);rintro e w' ⟨rfl,⟨nd,rfl⟩⟩;refine⟨_,rfl,?_⟩));go_ret2;exact⟨qE,qB⟩
 rw[if_neg c5] at H
 have c5b0:(t103==0)=false:=beq_eq_false_iff_ne.mpr c5
 have c5b1:(t103 != 0)=true:=bne_iff_ne.mpr c5
 simp only[zNq,zOq] at H
 obtain⟨rfl,rfl⟩:=H
 go_enter Try.func33,Try.ntmps33
 go_wp2_with (first|((with_reducible refine zJq (f:=100) rfl ?_);refine goesL_ (some 15) rfl rfl Try.func100 (by kernel_rfl) rfl #[.int .i64 a0,.int .i64 a1,.int .i64 a2] rfl qG ?_;(with_reducible refine(bP.calls k a0 a1 a2 t101 t102 t103 _ A4.out).mono ?_);rintro e w8 ⟨rfl,hb⟩;refine⟨_,rfl,?_⟩;replace HB:=zA (zV qB hb);(try clear hb)))
 go_ret2
 exact⟨qE,qB⟩
def cR.f (k:Nat) (a0:Int) (a1:Int) (a2:Int):Option (Int × Int):=(bP.f k a0 a1 a2).bind fun bt101=> (if bt101.2.2=0 then((cW.f bt101.1).bind fun bt104=> (if bt104.2=0 then(some (bt101.2.1,0))else(some (0,bt104.2))))else(some (0,bt101.2.2)))
theorem cR.mono: ∀ a0 a1 a2 k,LeO (cR.f k a0 a1 a2) (cR.f (k+1) a0 a1 a2):=by
  intro a0 a1 a2 k
  unfold cR.f
  repeat' (with_reducible first|exact bP.mono _ _ _ _|exact LeO.refl _|exact LeO.none _|refine LeO.ite ?_ ?_|refine LeO.bind ?_ (fun _=>?_))
theorem cR.calls (k:Nat) (a0:Int) (a1:Int) (a2:Int) (r1:Int) (r2:Int) (w:World) (h:cR.f k a0 a1 a2=some (r1,r2)):
  Calls Try.prog 37 #[.int .i64 a0,.int .i64 a1,.int .i64 a2] w fun e w'=>e= .returned (.tuple #[.int .i64 r1,.int .i64 r2])∧Below w.heap.size w w':=by
 have HB:=zA (Below.refl w.heap.size w)
 have H:((bP.f k a0 a1 a2).bind fun bt101=> (if bt101.2.2=0 then((cW.f bt101.1).bind fun bt104=> (if bt104.2=0 then(some (bt101.2.1,0))else(some (0,bt104.2))))else(some (0,bt101.2.2))))=some (r1,r2):=h
 clear h
 obtain⟨⟨t101,t102,t103⟩,A4,H⟩:=qD_ H
 (try dsimp only at H)
 by_cases c5:t103=0
 ·rw[if_pos c5] at H
  have c5b0:(t103==0)=true:=beq_iff_eq.mpr c5;have c5b1:(t103 != 0)=false:=bne_eq_false_iff_eq.mpr c5;clear c5;obtain⟨⟨t104,t105⟩,A6,H⟩:=qD_ H;(try dsimp only at H);by_cases c7:t105=0
  ·rw[if_pos c7] at H
   have c7b0:(t105==0)=true:=beq_iff_eq.mpr c7;have c7b1:(t105 != 0)=false:=bne_eq_false_iff_eq.mpr c7;clear c7;simp only[zNq,zOq] at H;obtain⟨rfl,rfl⟩:=H;go_enter Try.func37,Try.ntmps37;go_wp2_with (first|((with_reducible refine zJq (f:=100) rfl ?_);refine goesL_ (some 17) rfl rfl Try.func100 (by kernel_rfl) rfl #[.int .i64 a0,.int .i64 a1,.int .i64 a2] rfl qG ?_;(with_reducible refine(bP.calls k a0 a1 a2 t101 t102 t103 _ A4.out).mono ?_);rintro e w8 ⟨rfl,hb⟩;refine⟨_,rfl,?_⟩;replace HB:=zA (zV qB hb);(try clear hb))|((with_reducible refine zJq (f:=96) rfl ?_);refine goesL_ (some 26) rfl rfl Try.func96 (by kernel_rfl) rfl #[.int .i64 t101] rfl qG ?_;(with_reducible refine(cW.calls t101 t104 t105 _ A6.out).mono ?_);rintro e w' ⟨rfl,⟨nd,rfl⟩⟩;refine⟨_,rfl,?_⟩));go_ret2;exact⟨qE,qB⟩
  rw[if_neg c7] at H;have c7b0:(t105==0)=false:=beq_eq_false_iff_ne.mpr c7;have c7b1:(t105 != 0)=true:=bne_iff_ne.mpr c7;simp only[zNq,zOq] at H;obtain⟨rfl,rfl⟩:=H;go_enter Try.func37,Try.ntmps37;go_wp2_with (first|((with_reducible refine zJq (f:=100) rfl ?_);refine goesL_ (some 17) rfl rfl Try.func100 (by kernel_rfl) rfl #[.int .i64 a0,.int .i64 a1,.int .i64 a2] rfl qG ?_;(with_reducible refine(bP.calls k a0 a1 a2 t101 t102 t103 _ A4.out).mono ?_);rintro e w9 ⟨rfl,hb⟩;refine⟨_,rfl,?_⟩;replace HB:=zA (zV qB hb);(try clear hb))|((with_reducible refine zJq (f:=96) rfl ?_);refine goesL_ (some 26) rfl rfl Try.func96 (by kernel_rfl) rfl #[.int .i64 t101] rfl qG ?_;(with_reducible refine(cW.calls t101 t104 t105 _ A6.out).mono ?_);rintro e w' ⟨rfl,⟨nd,rfl⟩⟩;refine⟨_,rfl,?_⟩));go_ret2;exact⟨qE,qB⟩
 rw[if_neg c5] at H
 have c5b0:(t103==0)=false:=beq_eq_false_iff_ne.mpr c5
 have c5b1:(t103 != 0)=true:=bne_iff_ne.mpr c5
 simp only[zNq,zOq] at H
 obtain⟨rfl,rfl⟩:=H
 go_enter Try.func37,Try.ntmps37
 go_wp2_with (first|((with_reducible refine zJq (f:=100) rfl ?_);refine goesL_ (some 17) rfl rfl Try.func100 (by kernel_rfl) rfl #[.int .i64 a0,.int .i64 a1,.int .i64 a2] rfl qG ?_;(with_reducible refine(bP.calls k a0 a1 a2 t101 t102 t103 _ A4.out).mono ?_);rintro e w10 ⟨rfl,hb⟩;refine⟨_,rfl,?_⟩;replace HB:=zA (zV qB hb);(try clear hb)))
 go_ret2
 exact⟨qE,qB⟩
def bO.l0:Nat→Int→Int→List Int→List Int→Int→List Int→Int→Int→Option (List Int × List Int × Int × Int)
  |0,_,_,_,_,_,_,_,_=>none
  |k+1,x0,x1,x6,x7,x8,x16,x17,x18=>if x18 < x17 then(if 0≤x18 then(if x18 < (x16.length:Int)then((cL.f k x0 (rd x16 x18) x1).bind fun bt102=> (if bt102.2=0 then((cR.f k x0 (rd x16 x18) x1).bind fun bt104=> (if bt104.2=0 then(if x6.length < 17592186044416 then(if x7.length < 17592186044416 then(bO.l0 k x0 x1 (x6++ [bt102.1]) (x7++ [bt104.1]) (wrap64 (x8 - bt102.1)) x16 x17 (wrap64 (x18+1)))else(none))else(none))else(some (([] :List Int),([] :List Int),0,bt104.2))))else(some (([] :List Int),([] :List Int),0,bt102.2))))else(none))else(none))else(some (x6,x7,x8,0))
def bO.f (k:Nat) (a0:Int) (a1:Int) (l2:List Int):Option (List Int × List Int × Int × Int):=bO.l0 k a0 a1 ([] :List Int) ([] :List Int) a0 l2 (l2.length:Int) 0
theorem bO.mono_l: ∀ k,(∀ y0 y1 y2 y3 y4 y5 y6 y7,LeO (bO.l0 k y0 y1 y2 y3 y4 y5 y6 y7) (bO.l0 (k+1) y0 y1 y2 y3 y4 y5 y6 y7))
  |0=>fun _ _ _ _ _ _ _ _ r h=>by simp[bO.l0] at h
  |k+1=>by
    have ih0:=bO.mono_l k
    intro y0 y1 y2 y3 y4 y5 y6 y7
    unfold bO.l0
    repeat' (with_reducible first|exact ih0 _ _ _ _ _ _ _ _|exact cL.mono _ _ _ _|exact cR.mono _ _ _ _|exact LeO.refl _|exact LeO.none _|refine LeO.ite ?_ ?_|refine LeO.bind ?_ (fun _=>?_))
theorem bO.mono: ∀ a0 a1 a2 k,LeO (bO.f k a0 a1 a2) (bO.f (k+1) a0 a1 a2):=by
  intro a0 a1 a2 k
  have ih0:=bO.mono_l k
  unfold bO.f
  repeat' (with_reducible first|exact ih0 _ _ _ _ _ _ _ _|exact cL.mono _ _ _ _|exact cR.mono _ _ _ _|exact LeO.refl _|exact LeO.none _|refine LeO.ite ?_ ?_|refine LeO.bind ?_ (fun _=>?_))
theorem bO.calls (k:Nat) (a0:Int) (a1:Int) (A2:Option Addr) (c2:Nat) (l2:List Int) (r1:List Int) (r2:List Int) (r3:Int) (r4:Int) (w:World) (hr2:Kd.C (Kd.int .i64) w A2 l2.length l2) (hc2:l2.length≤c2) (h:bO.f k a0 a1 l2=some (r1,r2,r3,r4)):
  Calls Try.prog 107 #[.int .i64 a0,.int .i64 a1,.slice A2 l2.length c2] w fun e w'=> ∃ v0_ v1_:Value,e= .returned (.tuple #[v0_,v1_,.int .i64 r3,.int .i64 r4])∧Kd.R (Kd.int .i64) 3 w' w.heap.size (fun k_=>some k_≠(v1_:Value).ownBlock) v0_ r1∧Kd.R (Kd.int .i64) 3 w' w.heap.size (fun k_=>some k_≠(v0_:Value).ownBlock) v1_ r2∧Below w.heap.size w w':=by
 have HR2:=zA hr2
 have HC2:=zA hc2
 clear hr2 hc2
 have HB:=zA (Below.refl w.heap.size w)
 have H:(bO.l0 k a0 a1 ([] :List Int) ([] :List Int) a0 l2 (l2.length:Int) 0)=some (r1,r2,r3,r4):=h
 clear h
 have H':=zA H
 clear H
 go_enter Try.func107,Try.ntmps107
 go_wp2
 go_loopg[6,7,8,18] k (fun kq v6 v7 v8 v18 w'=> ∃ (x6_1:List Int) (x7_1:List Int) (x8_1:Int) (x18_1:Int),v8= .int .i64 x8_1∧v18= .int .i64 x18_1∧Aside0 (bO.l0 kq a0 a1 x6_1 x7_1 x8_1 l2 (l2.length:Int) x18_1=some (r1,r2,r3,r4))∧Aside0 (kq≤k)∧Aside0 (Kd.R (Kd.int .i64) 3 w' w.heap.size (fun k_=>some k_≠(v7:Value).ownBlock) v6 x6_1)∧Aside0 (Kd.R (Kd.int .i64) 3 w' w.heap.size (fun k_=>some k_≠(v6:Value).ownBlock) v7 x7_1)∧Aside0 (Below w.heap.size w w'))
 case atStart=>exact⟨(([] :List Int)),(([] :List Int)),(a0),(0),qF_,qF_,H',⟨Nat.le_refl _⟩,⟨qN⟩,⟨qN⟩,⟨qB⟩⟩
 case round=>
  clear H';try clear c1
  try clear c2
  try clear p2
  obtain⟨x6_1,x7_1,x8_1,x18_1,rfl,rfl,HA,HK1,HO_6,HO_7,HB⟩:=hrel;cases gk with
  |zero=>exact absurd HA.out (by simp[bO.l0])
  |succ k1=>
   have H:=HA.out;clear HA;simp only[bO.l0] at H;by_cases c4:x18_1 < (l2.length:Int)
   ·rw[if_pos c4] at H
    have c4b0:=zFq c4;clear c4;by_cases c5:0≤x18_1
    ·rw[if_pos c5] at H
     have c5b0:=zFq c5;clear c5;by_cases c6:x18_1 < (l2.length:Int)
     ·rw[if_pos c6] at H
      have c6b0:=zFq c6;clear c6;obtain⟨⟨t102,t103⟩,A7,H⟩:=qD_ H;(try dsimp only at H);by_cases c8:t103=0
      ·rw[if_pos c8] at H
       have c8b0:(t103==0)=true:=beq_iff_eq.mpr c8;have c8b1:(t103 != 0)=false:=bne_eq_false_iff_eq.mpr c8;clear c8;obtain⟨⟨t104,t105⟩,A9,H⟩:=qD_ H;(try dsimp only at H);by_cases c10:t105=0
       ·rw[if_pos c10] at H
        have c10b0:(t105==0)=true:=beq_iff_eq.mpr c10;have c10b1:(t105 != 0)=false:=bne_eq_false_iff_eq.mpr c10;clear c10;by_cases c11:x6_1.length < 17592186044416
        ·rw[if_pos c11] at H
         have LMc11:=zA c11;clear c11;obtain⟨y106,hy106⟩: ∃ y_:List Int,y_=(x6_1++ [t102]):=⟨_,rfl⟩
         replace H:(if x7_1.length < 17592186044416 then(bO.l0 k1 a0 a1 y106 (x7_1++ [t104]) (wrap64 (x8_1 - t102)) l2 (l2.length:Int) (wrap64 (x18_1+1)))else(none))=some (r1,r2,r3,r4):=by first|(rw[hy106];with_reducible exact H)|(have H2_:=(Option.bind_some _ _).symm.trans H;rw[hy106];with_reducible exact H2_)|(have H2_:=(Option.bind_some _ _).symm.trans H;with_reducible exact H2_)|with_reducible exact H|(rw[hy106];exact H)|exact H
         have Ny106:=zA hy106;clear hy106;by_cases c12:x7_1.length < 17592186044416
         ·rw[if_pos c12] at H
          have LMc12:=zA c12;clear c12;obtain⟨y109,hy109⟩: ∃ y_:List Int,y_=(x7_1++ [t104]):=⟨_,rfl⟩
          replace H:(bO.l0 k1 a0 a1 y106 y109 (wrap64 (x8_1 - t102)) l2 (l2.length:Int) (wrap64 (x18_1+1)))=some (r1,r2,r3,r4):=by first|(rw[hy109];with_reducible exact H)|(have H2_:=(Option.bind_some _ _).symm.trans H;rw[hy109];with_reducible exact H2_)|(have H2_:=(Option.bind_some _ _).symm.trans H;with_reducible exact H2_)|with_reducible exact H|(rw[hy109];exact H)|exact H
          have Ny109:=zA hy109;clear hy109;have H':=zA H;clear H;have p101:0≤(x18_1:Int):=qO_;have q101:x18_1 < (l2.length:Int):=qO_;obtain⟨ad101,e101,hx101_0⟩:=Kd.at_int HR2.out x18_1 p101 q101;cases e101
          replace hx101_0:=qU_ hx101_0;replace p101:=eq_true p101;replace q101:=eq_true q101;go_wp2_with (first|((with_reducible refine zJq (f:=33) rfl ?_);refine goesL_ (some 26) rfl rfl Try.func33 (by kernel_rfl) rfl #[.int .i64 a0,.int .i64 (rd l2 x18_1),.int .i64 a1] rfl qG ?_;(with_reducible refine(cL.calls k1 a0 (rd l2 x18_1) a1 t102 t103 _ A7.out).mono ?_);rintro e w13 ⟨rfl,hb⟩;refine⟨_,rfl,?_⟩;replace HO_6:=zA (Kd.R_below (qR_ HO_6.out) hb);replace HO_7:=zA (Kd.R_below (qR_ HO_7.out) hb);replace HB:=zA (zV qB hb);(try clear hb))|((with_reducible refine zJq (f:=37) rfl ?_);refine goesL_ (some 36) rfl rfl Try.func37 (by kernel_rfl) rfl #[.int .i64 a0,.int .i64 (rd l2 x18_1),.int .i64 a1] rfl qG ?_;(with_reducible refine(cR.calls k1 a0 (rd l2 x18_1) a1 t104 t105 _ A9.out).mono ?_);rintro e w14 ⟨rfl,hb⟩;refine⟨_,rfl,?_⟩;replace HO_6:=zA (Kd.R_below (qR_ HO_6.out) hb);replace HO_7:=zA (Kd.R_below (qR_ HO_7.out) hb);replace HB:=zA (zV qB hb);(try clear hb))|((with_reducible refine gate_builtin (b:= .append) (xs:= #[.tmp 42,.tmp 44]) rfl ?_);at_builtin;refine Kd.R_append (Kd.int .i64) (w0:=w) w.heap.size rfl (.tmp 42) (.tmp 44) 22 3 (.int .i64 0) 8 rfl Try.underlying22 info3 rfl (by decide) (by omega) u6 x6_1 t102 [.int .i64 t102] (fun k_=>some k_≠(u7:Value).ownBlock) (fun _=>False) rfl rfl ?aP (fun _ hk=>hk.elim) ?aF ?aO ?aB ?aS ?aL ?_;(case aP=>exact rfl);(case aB=>exact qB);(case aF=>exact(fun k_ hk=>Kd.fresh' (Kd.R_lt (qR_ HO_7.out)) k_ hk));(case aO=>exact(qR_ HO_6.out));(case aS=>exact(zW qB));(case aL=>have:=LMc11.out;omega);intro v107 w15 ho hb hg hat;rw[←Ny106.out] at ho;replace HO_7:=zA (Kd.R_after (ok:=(fun _=>True)) (by(with_reducible repeat(first|apply Kd.R_alloc|apply Kd.R_drewN|apply Kd.R_drew));exact Kd.R_mono HO_7.out (fun _ hk=> ⟨trivial,hk⟩)) hg hat);replace HB:=zA (hb);have HO108:=zA (ho);clear HO_6 ho hb hg hat)|((with_reducible refine gate_builtin (b:= .append) (xs:= #[.tmp 46,.tmp 48]) rfl ?_);at_builtin;refine Kd.R_append (Kd.int .i64) (w0:=w) w.heap.size rfl (.tmp 46) (.tmp 48) 22 3 (.int .i64 0) 8 rfl Try.underlying22 info3 rfl (by decide) (by omega) u7 x7_1 t104 [.int .i64 t104] (fun k_=>some k_≠(v107:Value).ownBlock) (fun _=>False) rfl rfl ?aP (fun _ hk=>hk.elim) ?aF ?aO ?aB ?aS ?aL ?_;(case aP=>exact rfl);(case aB=>exact qB);(case aF=>exact(fun k_ hk=>Kd.fresh' (Kd.R_lt (qR_ HO108.out)) k_ hk));(case aO=>exact(by(with_reducible repeat(first|apply Kd.R_alloc|apply Kd.R_drewN|apply Kd.R_drew));exact Kd.R_mono HO_7.out (fun _ hk=>hk.2)));(case aS=>exact(zW qB));(case aL=>have:=LMc12.out;omega);intro v110 w16 ho hb hg hat;rw[←Ny109.out] at ho;replace HO108:=zA (Kd.R_after (ok:=(fun _=>True)) (by(with_reducible repeat(first|apply Kd.R_alloc|apply Kd.R_drewN|apply Kd.R_drew));exact Kd.R_mono HO108.out (fun _ hk=> ⟨trivial,hk⟩)) hg hat);replace HB:=zA (hb);have HO111:=zA (ho);clear HO_7 ho hb hg hat))
          go_roundg k1
          case measure=>have:=HK1.out;omega
          case rel=>exact⟨(y106),(y109),(wrap64 (x8_1 - t102)),(wrap64 (x18_1+1)),qF_,qF_,H',⟨by have:=HK1.out;omega⟩,⟨by(with_reducible repeat(first|apply Kd.R_alloc|apply Kd.R_drewN|apply Kd.R_drew));exact Kd.R_mono HO108.out (fun _ hk=>hk.2)⟩,⟨qR_ HO111.out⟩,⟨qB⟩⟩
         rw[if_neg c12] at H;exact absurd H (by simp)
        rw[if_neg c11] at H;exact absurd H (by simp)
       rw[if_neg c10] at H;have c10b0:(t105==0)=false:=beq_eq_false_iff_ne.mpr c10;have c10b1:(t105 != 0)=true:=bne_iff_ne.mpr c10;simp only[zNq,zOq] at H;obtain⟨rfl,rfl,rfl,rfl⟩:=H;have p101:0≤(x18_1:Int):=qO_;have q101:x18_1 < (l2.length:Int):=qO_;obtain⟨ad101,e101,hx101_0⟩:=Kd.at_int HR2.out x18_1 p101 q101;cases e101
       replace hx101_0:=qU_ hx101_0;replace p101:=eq_true p101;replace q101:=eq_true q101;go_wp2_with (first|((with_reducible refine zJq (f:=33) rfl ?_);refine goesL_ (some 26) rfl rfl Try.func33 (by kernel_rfl) rfl #[.int .i64 a0,.int .i64 (rd l2 x18_1),.int .i64 a1] rfl qG ?_;(with_reducible refine(cL.calls k1 a0 (rd l2 x18_1) a1 t102 t103 _ A7.out).mono ?_);rintro e w17 ⟨rfl,hb⟩;refine⟨_,rfl,?_⟩;replace HO_6:=zA (Kd.R_below (qR_ HO_6.out) hb);replace HO_7:=zA (Kd.R_below (qR_ HO_7.out) hb);replace HB:=zA (zV qB hb);(try clear hb))|((with_reducible refine zJq (f:=37) rfl ?_);refine goesL_ (some 36) rfl rfl Try.func37 (by kernel_rfl) rfl #[.int .i64 a0,.int .i64 (rd l2 x18_1),.int .i64 a1] rfl qG ?_;(with_reducible refine(cR.calls k1 a0 (rd l2 x18_1) a1 t104 t105 _ A9.out).mono ?_);rintro e w18 ⟨rfl,hb⟩;refine⟨_,rfl,?_⟩;replace HO_6:=zA (Kd.R_below (qR_ HO_6.out) hb);replace HO_7:=zA (Kd.R_below (qR_ HO_7.out) hb);replace HB:=zA (zV qB hb);(try clear hb)));refine bodyPost_ret (results_list (rs:=[.tmp 6,.tmp 7,.tmp 8,.tmp 9]) rfl (by simp) (.tmp (.tmp (.tmp (.tmp .nil))))) rfl ?_;exact⟨_,_,qE,qN,qN,qB⟩
      rw[if_neg c8] at H;have c8b0:(t103==0)=false:=beq_eq_false_iff_ne.mpr c8;have c8b1:(t103 != 0)=true:=bne_iff_ne.mpr c8;simp only[zNq,zOq] at H;obtain⟨rfl,rfl,rfl,rfl⟩:=H;have p101:0≤(x18_1:Int):=qO_;have q101:x18_1 < (l2.length:Int):=qO_;obtain⟨ad101,e101,hx101_0⟩:=Kd.at_int HR2.out x18_1 p101 q101;cases e101
      replace hx101_0:=qU_ hx101_0;replace p101:=eq_true p101;replace q101:=eq_true q101;go_wp2_with (first|((with_reducible refine zJq (f:=33) rfl ?_);refine goesL_ (some 26) rfl rfl Try.func33 (by kernel_rfl) rfl #[.int .i64 a0,.int .i64 (rd l2 x18_1),.int .i64 a1] rfl qG ?_;(with_reducible refine(cL.calls k1 a0 (rd l2 x18_1) a1 t102 t103 _ A7.out).mono ?_);rintro e w19 ⟨rfl,hb⟩;refine⟨_,rfl,?_⟩;replace HO_6:=zA (Kd.R_below (qR_ HO_6.out) hb);replace HO_7:=zA (Kd.R_below (qR_ HO_7.out) hb);replace HB:=zA (zV qB hb);(try clear hb)));refine bodyPost_ret (results_list (rs:=[.tmp 6,.tmp 7,.tmp 8,.tmp 9]) rfl (by simp) (.tmp (.tmp (.tmp (.tmp .nil))))) rfl ?_;exact⟨_,_,qE,qN,qN,qB⟩
     rw[if_neg c6] at H;exact absurd H (by simp)
    rw[if_neg c5] at H;exact absurd H (by simp)
   rw[if_neg c4] at H;have c4b0:=zGq c4;clear c4;simp only[zNq,zOq] at H;obtain⟨rfl,rfl,rfl,rfl⟩:=H;go_wp2;refine bodyPost_ret (results_list (rs:=[.tmp 6,.tmp 7,.tmp 8,.tmp 9]) rfl (by simp) (.tmp (.tmp (.tmp (.tmp .nil))))) rfl ?_;exact⟨_,_,qE,qR_ HO_6.out,qR_ HO_7.out,qB⟩
mutual
def bI.j0:Nat→List Int→Bool→Option (Int × Int)
  |0,_,_=>none
  |k+1,x0,x15=>if x15=true then(some (0,2))else(bI.l0 k x0 x0 (x0.length:Int) 0)
def bI.l0:Nat→List Int→List Int→Int→Int→Option (Int × Int)
  |0,_,_,_,_=>none
  |k+1,x0,x16,x17,x18=>if x18 < x17 then(if 0≤x18 then(if x18 < (x16.length:Int)then(if(rd x16 x18) < 0 then(some (0,8))else(bI.l0 k x0 x16 x17 (wrap64 (x18+1))))else(none))else(none))else((aZ.f k x0).bind fun bt102=> (if bt102.2=0 then(if bt102.1=0 then(some ((x0.length:Int),0))else(some (bt102.1,0)))else(some (0,bt102.2))))
end
def bI.f (k:Nat) (l0:List Int):Option (Int × Int):=if(l0.length:Int) < 1 then(bI.j0 k l0 true)else(bI.j0 k l0 (decide ((l0.length:Int) > 200)))
theorem bI.mono_l: ∀ k,(∀ y0 y1,LeO (bI.j0 k y0 y1) (bI.j0 (k+1) y0 y1))∧(∀ y0 y1 y2 y3,LeO (bI.l0 k y0 y1 y2 y3) (bI.l0 (k+1) y0 y1 y2 y3))
  |0=> ⟨fun _ _ r h=>by simp[bI.j0] at h,fun _ _ _ _ r h=>by simp[bI.l0] at h⟩
  |k+1=>by
    obtain⟨ih0,ih1⟩:=bI.mono_l k
    refine⟨?_,?_⟩
    · intro y0 y1
      unfold bI.j0
      repeat' (with_reducible first|exact ih0 _ _|exact ih1 _ _ _ _|exact aZ.mono _ _|exact LeO.refl _|exact LeO.none _|refine LeO.ite ?_ ?_|refine LeO.bind ?_ (fun _=>?_))
    intro y0 y1 y2 y3
    unfold bI.l0
    repeat' (with_reducible first|exact ih0 _ _|exact ih1 _ _ _ _|exact aZ.mono _ _|exact LeO.refl _|exact LeO.none _|refine LeO.ite ?_ ?_|refine LeO.bind ?_ (fun _=>?_))
theorem bI.mono: ∀ a0 k,LeO (bI.f k a0) (bI.f (k+1) a0):=by
  intro a0 k
  obtain⟨ih0,ih1⟩:=bI.mono_l k
  unfold bI.f
  repeat' (with_reducible first|exact ih0 _ _|exact ih1 _ _ _ _|exact aZ.mono _ _|exact LeO.refl _|exact LeO.none _|refine LeO.ite ?_ ?_|refine LeO.bind ?_ (fun _=>?_))
theorem bI.calls (k:Nat) (A0:Option Addr) (c0:Nat) (l0:List Int) (r1:Int) (r2:Int) (w:World) (hr0:Kd.C (Kd.int .i64) w A0 l0.length l0) (hc0:l0.length≤c0) (h:bI.f k l0=some (r1,r2)):
  Calls Try.prog 57 #[.slice A0 l0.length c0] w fun e w'=>e= .returned (.tuple #[.int .i64 r1,.int .i64 r2])∧Drawn0 w w':=by
 have HR0:=zA hr0
 have HC0:=zA hc0
 clear hr0 hc0
 have H:(if(l0.length:Int) < 1 then(bI.j0 k l0 true)else(bI.j0 k l0 (decide ((l0.length:Int) > 200))))=some (r1,r2):=h
 clear h
 have HC2:=zA H
 clear H
 go_enter Try.func57,Try.ntmps57
 go_upto_region 1 with(fail)
 go_cut[15] (fun v15 wc=> ∃ (kq:Nat) (x15_1:Bool),v15= .bool x15_1∧Aside0 (bI.j0 kq l0 x15_1=some (r1,r2))∧Aside0 (kq≤k)∧Drawn0 w wc)
 case first=>
  have H:=HC2.out;clear HC2;by_cases c3:(l0.length:Int) < 1
  ·rw[if_pos c3] at H
   have c3b0:=zFq c3;have c3b1:decide (l0.length < 1)=true:=zFq (by omega);clear c3;(first|rw[c3b0] |(simp only[i64_w,i32_w];rw[c3b0])|skip)
   have H':=zA H;clear H;go_wp2;go_meet
   case rel=>exact⟨_,(true),qF_,H',⟨by first|omega|exact Nat.le_refl _⟩,by repeat(first|exact Drawn0.refl _|apply Drawn0.step)⟩
  rw[if_neg c3] at H;have c3b0:=zGq c3;have c3b1:decide (l0.length < 1)=false:=zGq (by omega);clear c3;(first|rw[c3b0] |(simp only[i64_w,i32_w];rw[c3b0])|skip)
  have H':=zA H;clear H;go_wp2;go_meet
  case rel=>exact⟨_,(decide ((l0.length:Int) > 200)),qF_,H',⟨by first|omega|exact Nat.le_refl _⟩,by repeat(first|exact Drawn0.refl _|apply Drawn0.step)⟩
 case rest=>
  clear HC2;try clear p2
  try clear c3
  try clear c3b0
  try clear c3b1
  obtain⟨kq,x15_1,rfl,HA,HJ1,⟨mc1,rfl⟩⟩:=hcut;cases kq with
  |zero=>exact absurd HA.out (by simp[bI.j0])
  |succ kj1=>
   have H:=HA.out;clear HA;simp only[bI.j0] at H;by_cases c4:x15_1=true
   ·subst c4
    have H1:(some (0,2))=some (r1,r2):=by first|(rw[if_pos rfl] at H;exact H)|rfl
    clear H;have H:=H1;clear H1;simp only[zNq,zOq] at H;obtain⟨rfl,rfl⟩:=H;go_wp2;go_ret2;exact⟨by first|rfl|(simp;done)|(simp[*];done),by repeat(first|exact Drawn0.refl _|apply Drawn0.step)⟩
   replace c4:=Bool.eq_false_iff.mpr c4;subst c4;have H1:(bI.l0 kj1 l0 l0 (l0.length:Int) 0)=some (r1,r2):=by first|(rw[if_neg (show ¬ (false=true) by decide)] at H;exact H)|rfl
   clear H;have H:=H1;clear H1;have H':=zA H;clear H;go_wp2;go_loopg[18] kj1 (fun kq v18 w'=> ∃ (x18_2:Int),v18= .int .i64 x18_2∧Aside0 (bI.l0 kq l0 l0 (l0.length:Int) x18_2=some (r1,r2))∧Aside0 (kq≤kj1)∧Drawn0 w w')
   case atStart=>exact⟨(0),qF_,H',⟨Nat.le_refl _⟩,by repeat(first|exact Drawn0.refl _|apply Drawn0.step)⟩
   case round=>
    clear H';try clear c1
    try clear p2
    try clear c3
    try clear c3b0
    try clear c3b1
    try clear c4
    try clear p2
    obtain⟨x18_2,rfl,HA,HK2,⟨m2,rfl⟩⟩:=hrel;cases gk with
    |zero=>exact absurd HA.out (by simp[bI.l0])
    |succ k2=>
     have H:=HA.out;clear HA;simp only[bI.l0] at H;by_cases c5:x18_2 < (l0.length:Int)
     ·rw[if_pos c5] at H
      have c5b0:=zFq c5;clear c5;by_cases c6:0≤x18_2
      ·rw[if_pos c6] at H
       have c6b0:=zFq c6;clear c6;by_cases c7:x18_2 < (l0.length:Int)
       ·rw[if_pos c7] at H
        have c7b0:=zFq c7;clear c7;by_cases c8:(rd l0 x18_2) < 0
        ·rw[if_pos c8] at H
         have c8b0:=zFq c8;clear c8;simp only[zNq,zOq] at H;obtain⟨rfl,rfl⟩:=H;have p101:0≤(x18_2:Int):=qO_;have q101:x18_2 < (l0.length:Int):=qO_;obtain⟨ad101,e101,hx101_0⟩:=Kd.at_int HR0.out x18_2 p101 q101;cases e101
         replace p101:=eq_true p101;replace q101:=eq_true q101;go_wp2;go_ret2;exact⟨by first|rfl|(simp;done)|(simp[*];done),by repeat(first|exact Drawn0.refl _|apply Drawn0.step)⟩
        rw[if_neg c8] at H;have c8b0:=zGq c8;clear c8;have H':=zA H;clear H;have p101:0≤(x18_2:Int):=qO_;have q101:x18_2 < (l0.length:Int):=qO_;obtain⟨ad101,e101,hx101_0⟩:=Kd.at_int HR0.out x18_2 p101 q101;cases e101
        replace p101:=eq_true p101;replace q101:=eq_true q101;go_wp2;go_roundg k2
        case measure=>have:=HJ1.out;have:=HK2.out;omega
        case rel=>exact⟨(wrap64 (x18_2+1)),qF_,H',⟨by have:=HJ1.out;have:=HK2.out;omega⟩,by repeat(first|exact Drawn0.refl _|apply Drawn0.step)⟩
       rw[if_neg c7] at H;exact absurd H (by simp)
      rw[if_neg c6] at H;exact absurd H (by simp)
     rw[if_neg c5] at H;have c5b0:=zGq c5;clear c5;obtain⟨⟨t102,t103⟩,A9,H⟩:=qD_ H;(try dsimp only at H);by_cases c10:t103=0
     ·rw[if_pos c10] at H
      have c10b0:(t103==0)=true:=beq_iff_eq.mpr c10;have c10b1:(t103 != 0)=false:=bne_eq_false_iff_eq.mpr c10;clear c10;by_cases c11:t102=0
      ·rw[if_pos c11] at H
       have c11b0:(t102==0)=true:=beq_iff_eq.mpr c11;have c11b1:(t102 != 0)=false:=bne_eq_false_iff_eq.mpr c11;clear c11;simp only[zNq,zOq] at H;obtain⟨rfl,rfl⟩:=H;go_wp2_with (first|((with_reducible refine zJq (f:=25) rfl ?_);refine goesL_ (some 27) rfl rfl Try.func25 (by kernel_rfl) rfl #[.slice A0 l0.length c0] rfl qG ?_;(with_reducible refine(aZ.calls k2 _ _ l0 t102 t103 _ ?side1 ?side2 A9.out).mono ?_);(case side1=>repeat(first|exact HR0.out|(with_reducible refine Kd.C_alloc ?_ _)|(with_reducible refine Kd.C_drewN ?_ _)|(with_reducible refine Kd.C_drew ?_)));(case side2=>exact HC0.out);rintro e w' ⟨rfl,⟨nd,rfl⟩⟩;refine⟨_,rfl,?_⟩));go_ret2;exact⟨by first|rfl|(simp;done)|(simp[*];done),by repeat(first|exact Drawn0.refl _|apply Drawn0.step)⟩
      rw[if_neg c11] at H;have c11b0:(t102==0)=false:=beq_eq_false_iff_ne.mpr c11;have c11b1:(t102 != 0)=true:=bne_iff_ne.mpr c11;simp only[zNq,zOq] at H;obtain⟨rfl,rfl⟩:=H;go_wp2_with (first|((with_reducible refine zJq (f:=25) rfl ?_);refine goesL_ (some 27) rfl rfl Try.func25 (by kernel_rfl) rfl #[.slice A0 l0.length c0] rfl qG ?_;(with_reducible refine(aZ.calls k2 _ _ l0 t102 t103 _ ?side1 ?side2 A9.out).mono ?_);(case side1=>repeat(first|exact HR0.out|(with_reducible refine Kd.C_alloc ?_ _)|(with_reducible refine Kd.C_drewN ?_ _)|(with_reducible refine Kd.C_drew ?_)));(case side2=>exact HC0.out);rintro e w' ⟨rfl,⟨nd,rfl⟩⟩;refine⟨_,rfl,?_⟩));go_ret2;exact⟨by first|rfl|(simp;done)|(simp[*];done),by repeat(first|exact Drawn0.refl _|apply Drawn0.step)⟩
     rw[if_neg c10] at H;have c10b0:(t103==0)=false:=beq_eq_false_iff_ne.mpr c10;have c10b1:(t103 != 0)=true:=bne_iff_ne.mpr c10;simp only[zNq,zOq] at H;obtain⟨rfl,rfl⟩:=H;go_wp2_with (first|((with_reducible refine zJq (f:=25) rfl ?_);refine goesL_ (some 27) rfl rfl Try.func25 (by kernel_rfl) rfl #[.slice A0 l0.length c0] rfl qG ?_;(with_reducible refine(aZ.calls k2 _ _ l0 t102 t103 _ ?side1 ?side2 A9.out).mono ?_);(case side1=>repeat(first|exact HR0.out|(with_reducible refine Kd.C_alloc ?_ _)|(with_reducible refine Kd.C_drewN ?_ _)|(with_reducible refine Kd.C_drew ?_)));(case side2=>exact HC0.out);rintro e w' ⟨rfl,⟨nd,rfl⟩⟩;refine⟨_,rfl,?_⟩));go_ret2;exact⟨by first|rfl|(simp;done)|(simp[*];done),by repeat(first|exact Drawn0.refl _|apply Drawn0.step)⟩
end Go.Proofs.Ytefhljhpcpajgaa.F
set_option linter.unusedVariables false
namespace Go.Proofs.Ytefhljhpcpajgaa.Stable
open Go.Sort
variable {α:Type} [Inhabited α]
def swr (a b:Nat):Nat→Nat→Array α→Array α
  |0,_,d=>d
  |k+1,i,d=>swr a b k (i+1) (swp d (a+i) (b+i))
theorem swr_size (a b:Nat): ∀ (k i:Nat) (d:Array α),(swr a b k i d).size=d.size
  |0,_,d=>rfl
  |k+1,i,d=>by rw[swr,swr_size a b k,swp_size]
theorem swr_get (a b:Nat): ∀ (k i:Nat) (d:Array α),a+i+k≤b+i→b+i+k≤d.size→∀ p,(swr a b k i d)[p]! =if a+i≤p∧p < a+i+k then d[p+(b - a)]! else if b+i≤p∧p < b+i+k then d[p - (b - a)]! else d[p]!
  |0,i,d,_,_,p=>by rw[swr,if_neg (by omega),if_neg (by omega)]
  |k+1,i,d,h1,h2,p=>by
    rw[swr,swr_get a b k (i+1) _ (by omega) (by rw[swp_size];omega) p]
    have g:=fun q=>swp_get d (show a+i < d.size by omega) (show b+i < d.size by omega) q
    simp only[g]
    (repeat' split) <;> first|rfl|(exfalso;omega)|(congr 1;omega)
theorem swr_permIn (lo hi a b:Nat): ∀ (k i:Nat) (d:Array α),lo≤a+i→a+i+k≤hi→lo≤b+i→b+i+k≤hi→hi≤d.size→PermIn lo hi d (swr a b k i d)
  |0,i,d,_,_,_,_,_=>permIn_refl d lo hi
  |k+1,i,d,h1,h2,h3,h4,h5=>by
    rw[swr]
    exact permIn_trans _ _ _ lo hi (swp_permIn d lo hi (a+i) (b+i) h1 (by omega) h3 (by omega) h5) (swr_permIn lo hi a b k (i+1) _ (by omega) (by omega) (by omega) (by omega) (by rw[swp_size];exact h5))
def rot (m:Nat):Nat→Nat→Nat→Array α→Array α
  |0,_,_,d=>d
  |f+1,i,j,d=>if i=j then swr (m - i) m i 0 d else if j < i then rot m f (i - j) j (swr (m - i) m j 0 d)else rot m f i (j - i) (swr (m - i) (m+j - i) i 0 d)
theorem rot_size (m:Nat): ∀ (f i j:Nat) (d:Array α),(rot m f i j d).size=d.size
  |0,_,_,d=>rfl
  |f+1,i,j,d=>by rw[rot];split <;> (try split) <;> simp only[rot_size m f,swr_size]
theorem rot_get (m:Nat): ∀ (f i j:Nat) (d:Array α),i+j≤f→0 < i→0 < j→i≤m→m+j≤d.size→∀ p,(rot m f i j d)[p]! =if m - i≤p∧p < m - i+j then d[p+i]! else if m - i+j≤p∧p < m+j then d[p - j]! else d[p]!
  |0,i,j,d,h,h1,h2,_,_,_=>by omega
  |f+1,i,j,d,hf,hi,hj,him,hmj,p=>by
    rw[rot]
    by_cases e:i=j
    · subst e
      rw[if_pos rfl,swr_get _ _ _ _ _ (by omega) (by omega)]
      (repeat' split) <;> first|rfl|(exfalso;omega)|(congr 1;omega)
    rw[if_neg e]
    by_cases l:j < i
    · rw[if_pos l,rot_get m f (i - j) j _ (by omega) (by omega) hj (by omega) (by rw[swr_size];exact hmj) p]
      have g:=fun q=>swr_get (m - i) m j 0 d (by omega) (by omega) q
      simp only[g]
      (repeat' split) <;> first|rfl|(exfalso;omega)|(congr 1;omega)
    rw[if_neg l,rot_get m f i (j - i) _ (by omega) hi (by omega) him (by rw[swr_size];omega) p]
    have g:=fun q=>swr_get (m - i) (m+j - i) i 0 d (by omega) (by omega) q
    simp only[g]
    (repeat' split) <;> first|rfl|(exfalso;omega)|(congr 1;omega)
theorem rot_permIn (lo hi m:Nat): ∀ (f i j:Nat) (d:Array α),i≤m→lo≤m - i→m+j≤hi→hi≤d.size→PermIn lo hi d (rot m f i j d)
  |0,i,j,d,_,_,_,_=>permIn_refl d lo hi
  |f+1,i,j,d,h1,h2,h3,h4=>by
    rw[rot]
    split
    · exact swr_permIn lo hi _ _ _ _ d (by omega) (by omega) (by omega) (by omega) h4
    split
    · exact permIn_trans _ _ _ lo hi (swr_permIn lo hi _ _ _ _ d (by omega) (by omega) (by omega) (by omega) h4) (rot_permIn lo hi m f _ _ _ (by omega) (by omega) h3 (by rw[swr_size];exact h4))
    exact permIn_trans _ _ _ lo hi (swr_permIn lo hi _ _ _ _ d (by omega) (by omega) (by omega) (by omega) h4) (rot_permIn lo hi m f _ _ _ h1 h2 (by omega) (by rw[swr_size];exact h4))
def bs (p:Nat→Bool):Nat→Nat→Nat→Nat
  |0,i,_=>i
  |f+1,i,j=>if i < j then(if p ((i+j) / 2)=true then bs p f ((i+j) / 2+1) j else bs p f i ((i+j) / 2))else i
theorem bs_spec (p:Nat→Bool) (lo hi:Nat) (hm: ∀ x y,lo≤x→x≤y→y < hi→p y=true→p x=true): ∀ (f i j:Nat),j - i≤f→lo≤i→i≤j→j≤hi→(∀ x,lo≤x→x < i→p x=true)→(∀ x,j≤x→x < hi→p x=false)→i≤bs p f i j∧bs p f i j≤j∧(∀ x,lo≤x→x < bs p f i j→p x=true)∧(∀ x,bs p f i j≤x→x < hi→p x=false)
  |0,i,j,h0,h1,h2,h3,ht,hf=>by
    obtain rfl:i=j:=by omega
    exact⟨Nat.le_refl _,Nat.le_refl _,ht,hf⟩
  |f+1,i,j,h0,h1,h2,h3,ht,hf=>by
    rw[bs]
    by_cases c:i < j
    · rw[if_pos c]
      by_cases g:p ((i+j) / 2)=true
      · rw[if_pos g]
        have:=bs_spec p lo hi hm f ((i+j) / 2+1) j (by omega) (by omega) (by omega) h3 (fun x hx hx2=>hm x ((i+j) / 2) hx (by omega) (by omega) g) hf
        exact⟨by omega,this.2.1,this.2.2⟩
      rw[if_neg g]
      have:=bs_spec p lo hi hm f i ((i+j) / 2) (by omega) h1 (by omega) (by omega) ht (fun x hx hx2=>by
        cases e:p x with
        |false=>rfl
        |true=>exact absurd (hm ((i+j) / 2) x (by omega) hx hx2 e) g)
      exact⟨this.1,by omega,this.2.2⟩
    rw[if_neg c]
    obtain rfl:i=j:=by omega
    exact⟨Nat.le_refl _,Nat.le_refl _,ht,hf⟩
def shU:Nat→Nat→Array α→Array α
  |0,_,d=>d
  |c+1,k,d=>shU c (k+1) (swp d k (k+1))
def shD:Nat→Nat→Array α→Array α
  |0,_,d=>d
  |c+1,k,d=>shD c (k - 1) (swp d k (k - 1))
theorem shU_size: ∀ (c k:Nat) (d:Array α),(shU c k d).size=d.size
  |0,_,_=>rfl
  |c+1,k,d=>by rw[shU,shU_size c,swp_size]
theorem shD_size: ∀ (c k:Nat) (d:Array α),(shD c k d).size=d.size
  |0,_,_=>rfl
  |c+1,k,d=>by rw[shD,shD_size c,swp_size]
theorem shU_get: ∀ (c k:Nat) (d:Array α),k+c < d.size→∀ p,(shU c k d)[p]! =if k≤p∧p < k+c then d[p+1]! else if p=k+c then d[k]! else d[p]!
  |0,k,d,h,p=>by
    rw[shU,if_neg (by omega)]
    by_cases e:p=k+0
    · rw[if_pos e];congr 1
    rw[if_neg e]
  |c+1,k,d,h,p=>by
    rw[shU,shU_get c (k+1) _ (by rw[swp_size];omega) p]
    have g:=fun q=>swp_get d (show k < d.size by omega) (show k+1 < d.size by omega) q
    simp only[g]
    (repeat' split) <;> first|rfl|(exfalso;omega)|(congr 1;omega)|exact absurd trivial (by assumption)
theorem shD_get: ∀ (c k:Nat) (d:Array α),c≤k→k < d.size→∀ p,(shD c k d)[p]! =if p=k - c then d[k]! else if k - c < p∧p≤k then d[p - 1]! else d[p]!
  |0,k,d,h,_,p=>by
    rw[shD]
    by_cases e:p=k - 0
    · rw[if_pos e];congr 1
    rw[if_neg e,if_neg (by omega)]
  |c+1,k,d,h,hk,p=>by
    rw[shD,shD_get c (k - 1) _ (by omega) (by rw[swp_size];omega) p]
    have g:=fun q=>swp_get d (show k < d.size by omega) (show k - 1 < d.size by omega) q
    simp only[g]
    (repeat' split) <;> first|rfl|(exfalso;omega)|(congr 1;omega)|exact absurd trivial (by assumption)
theorem shU_permIn (lo hi:Nat): ∀ (c k:Nat) (d:Array α),lo≤k→k+c < hi→hi≤d.size→PermIn lo hi d (shU c k d)
  |0,_,d,_,_,_=>permIn_refl d lo hi
  |c+1,k,d,h1,h2,h3=>by
    rw[shU]
    exact permIn_trans _ _ _ lo hi (swp_permIn d lo hi k (k+1) h1 (by omega) (by omega) (by omega) h3) (shU_permIn lo hi c (k+1) _ (by omega) (by omega) (by rw[swp_size];exact h3))
theorem shD_permIn (lo hi:Nat): ∀ (c k:Nat) (d:Array α),lo+c≤k→k < hi→hi≤d.size→PermIn lo hi d (shD c k d)
  |0,_,d,_,_,_=>permIn_refl d lo hi
  |c+1,k,d,h1,h2,h3=>by
    rw[shD]
    exact permIn_trans _ _ _ lo hi (swp_permIn d lo hi k (k - 1) (by omega) h2 (by omega) (by omega) h3) (shD_permIn lo hi c (k - 1) _ (by omega) (by omega) (by rw[swp_size];exact h3))
def sym (lt:α→α→Bool):Nat→Nat→Nat→Nat→Array α→Array α
  |0,_,_,_,d=>d
  |f+1,a,m,b,d=>
    if m - a=1 then shU (bs (fun h=>lt d[h]! d[a]!) (b - m) m b - 1 - a) a d
    else if b - m=1 then shD (m - bs (fun h=>!lt d[m]! d[h]!) (m - a) a m) m d
    else
      let mid:=(a+b) / 2
      let n:=mid+m
      let lo:=if mid < m then n - b else a
      let hi:=if mid < m then mid else m
      let s:=bs (fun c=>!lt d[n - 1 - c]! d[c]!) (hi - lo) lo hi
      let e:=n - s
      let d1:=if s < m∧m < e then rot m (m - s+(e - m)) (m - s) (e - m) d else d
      let d2:=if a < s∧s < mid then sym lt f a s mid d1 else d1
      if mid < e∧e < b then sym lt f mid e b d2 else d2
theorem sym_size (lt:α→α→Bool): ∀ (f a m b:Nat) (d:Array α),(sym lt f a m b d).size=d.size
  |0,_,_,_,d=>rfl
  |f+1,a,m,b,d=>by
    rw[sym]
    split
    · exact shU_size _ _ _
    split
    · exact shD_size _ _ _
    dsimp only
    (repeat' split) <;> simp only[sym_size lt f,rot_size]
def Up (R:α→α→Prop) (a b:Nat) (d:Array α):Prop:= ∀ i j,a≤i→i < j→j < b→R d[i]! d[j]!
def Tells (lt:α→α→Bool) (R:α→α→Prop) (a m b:Nat) (d:Array α):Prop:= ∀ i j,a≤i→i < m→m≤j→j < b→(lt d[j]! d[i]! =true∧R d[j]! d[i]!)∨(lt d[j]! d[i]! =false∧R d[i]! d[j]!)
variable {lt:α→α→Bool} {R:α→α→Prop}
theorem Tells.pos {a m b:Nat} {d:Array α} (h:Tells lt R a m b d) {i j:Nat} (h1:a≤i) (h2:i < m) (h3:m≤j) (h4:j < b) (g:lt d[j]! d[i]! =true):R d[j]! d[i]! :=by
  rcases h i j h1 h2 h3 h4 with h|h
  · exact h.2
  rw[h.1] at g;cases g
theorem Tells.neg {a m b:Nat} {d:Array α} (h:Tells lt R a m b d) {i j:Nat} (h1:a≤i) (h2:i < m) (h3:m≤j) (h4:j < b) (g:lt d[j]! d[i]! =false):R d[i]! d[j]! :=by
  rcases h i j h1 h2 h3 h4 with h|h
  · rw[h.1] at g;cases g
  exact h.2
theorem Tells.is (hir: ∀ x y,R x y→¬ R y x) {a m b:Nat} {d:Array α} (h:Tells lt R a m b d) {i j:Nat} (h1:a≤i) (h2:i < m) (h3:m≤j) (h4:j < b) (g:R d[j]! d[i]!):lt d[j]! d[i]! =true:=by
  rcases h i j h1 h2 h3 h4 with h|h
  · exact h.1
  exact absurd g (hir _ _ h.2)
theorem Tells.isn (hir: ∀ x y,R x y→¬ R y x) {a m b:Nat} {d:Array α} (h:Tells lt R a m b d) {i j:Nat} (h1:a≤i) (h2:i < m) (h3:m≤j) (h4:j < b) (g:R d[i]! d[j]!):lt d[j]! d[i]! =false:=by
  rcases h i j h1 h2 h3 h4 with h|h
  · exact absurd g (hir _ _ h.2)
  exact h.1
theorem sym_spec (hir: ∀ x y,R x y→¬ R y x) (htr: ∀ x y z,R x y→R y z→R x z): ∀ (f a m b:Nat) (d:Array α),b - a≤f→a < m→m < b→b≤d.size→Up R a m d→Up R m b d→Tells lt R a m b d→PermIn a b d (sym lt f a m b d)∧Up R a b (sym lt f a m b d)
  |0,a,m,b,d,h0,h1,h2,_,_,_,_=>by omega
  |f+1,a,m,b,d,h0,h1,h2,hb,u1,u2,T=>by
    rw[sym]
    by_cases e1:m - a=1
    · rw[if_pos e1]
      obtain rfl:m=a+1:=by omega
      have sp:=bs_spec (fun h=>lt d[h]! d[a]!) (a+1) b (fun x y hx hxy hy g=>by
        rcases Nat.eq_or_lt_of_le hxy with rfl|hlt
        · exact g
        exact T.is hir (Nat.le_refl _) (by omega) hx (by omega) (htr _ _ _ (u2 x y hx hlt hy) (T.pos (Nat.le_refl _) (by omega) (by omega) hy g))) (b - (a+1)) (a+1) b (Nat.le_refl _) (Nat.le_refl _) (by omega) (Nat.le_refl _) (fun x h1 h2=>by omega) (fun x h1 h2=>by omega)
      generalize bs (fun h=>lt d[h]! d[a]!) (b - (a+1)) (a+1) b=s at sp
      obtain⟨s1,s2,st,sf⟩:=sp
      refine⟨shU_permIn a b _ _ d (Nat.le_refl _) (by omega) hb,fun i j hi hij hj=>?_⟩
      rw[shU_get _ _ _ (by omega),shU_get _ _ _ (by omega)]
      by_cases c1:i < s - 1
      · rw[if_pos (by omega)]
        by_cases c2:j < s - 1
        · rw[if_pos (by omega)];exact u2 _ _ (by omega) (by omega) (by omega)
        rw[if_neg (by omega)]
        by_cases c3:j=s - 1
        · rw[if_pos (by omega)];exact T.pos (Nat.le_refl _) (by omega) (by omega) (by omega) (st _ (by omega) (by omega))
        rw[if_neg (by omega)];exact u2 _ _ (by omega) (by omega) (by omega)
      rw[if_neg (by omega)]
      by_cases c2:i=s - 1
      · rw[if_pos (by omega),if_neg (by omega),if_neg (by omega)];exact T.neg (Nat.le_refl _) (by omega) (by omega) (by omega) (sf _ (by omega) (by omega))
      rw[if_neg (by omega),if_neg (by omega),if_neg (by omega)];exact u2 _ _ (by omega) (by omega) (by omega)
    rw[if_neg e1]
    by_cases e2:b - m=1
    · rw[if_pos e2]
      obtain rfl:b=m+1:=by omega
      have sp:=bs_spec (fun h=>!lt d[m]! d[h]!) a m (fun x y hx hxy hy g=>by
        rcases Nat.eq_or_lt_of_le hxy with rfl|hlt
        · exact g
        simp only[Bool.not_eq_true'] at g⊢
        exact T.isn hir hx (by omega) (Nat.le_refl _) (by omega) (htr _ _ _ (u1 x y hx hlt hy) (T.neg (by omega) hy (Nat.le_refl _) (by omega) g))) (m - a) a m (Nat.le_refl _) (Nat.le_refl _) (by omega) (Nat.le_refl _) (fun x h1 h2=>by omega) (fun x h1 h2=>by omega)
      generalize bs (fun h=>!lt d[m]! d[h]!) (m - a) a m=s at sp
      obtain⟨s1,s2,st,sf⟩:=sp
      simp only[Bool.not_eq_true',Bool.not_eq_false'] at st sf
      refine⟨shD_permIn a (m+1) _ _ d (by omega) (by omega) hb,fun i j hi hij hj=>?_⟩
      rw[shD_get _ _ _ (by omega) (by omega),shD_get _ _ _ (by omega) (by omega)]
      by_cases c1:i=s
      · rw[if_pos (by omega),if_neg (by omega),if_pos (by omega)];exact T.pos (by omega) (by omega) (Nat.le_refl _) (by omega) (sf _ (by omega) (by omega))
      rw[if_neg (by omega)]
      by_cases c2:s < i
      · rw[if_pos (by omega),if_neg (by omega),if_pos (by omega)];exact u1 _ _ (by omega) (by omega) (by omega)
      rw[if_neg (by omega)]
      by_cases c3:j=s
      · rw[if_pos (by omega)];exact T.neg hi (by omega) (Nat.le_refl _) (by omega) (st _ hi (by omega))
      rw[if_neg (by omega)]
      by_cases c4:s < j
      · rw[if_pos (by omega)];exact u1 _ _ (by omega) (by omega) (by omega)
      rw[if_neg (by omega)];exact u1 _ _ (by omega) (by omega) (by omega)
    rw[if_neg e2]
    dsimp only
    obtain⟨mid,hmid⟩: ∃ x,x=(a+b) / 2:=⟨_,rfl⟩
    rw[←hmid]
    obtain⟨lo,hlo⟩: ∃ x,x=if mid < m then mid+m - b else a:=⟨_,rfl⟩
    obtain⟨hi,hhi⟩: ∃ x,x=if mid < m then mid else m:=⟨_,rfl⟩
    rw[←hlo,←hhi]
    have L:(mid < m∧lo=mid+m - b∧hi=mid)∨(m≤mid∧lo=a∧hi=m):=by
      by_cases c:mid < m
      · rw[if_pos c] at hlo hhi;exact .inl ⟨c,hlo,hhi⟩
      rw[if_neg c] at hlo hhi;exact .inr ⟨by omega,hlo,hhi⟩
    clear hlo hhi
    have sp:=bs_spec (fun c=>!lt d[mid+m - 1 - c]! d[c]!) lo hi (fun x y hx hxy hy g=>by
      rcases Nat.eq_or_lt_of_le hxy with rfl|hlt
      · exact g
      simp only[Bool.not_eq_true'] at g⊢
      exact T.isn hir (by omega) (by omega) (by omega) (by omega) (htr _ _ _ (u1 x y (by omega) hlt (by omega)) (htr _ _ _ (T.neg (by omega) (by omega) (by omega) (by omega) g) (u2 _ _ (by omega) (by omega) (by omega))))) (hi - lo) lo hi (Nat.le_refl _) (Nat.le_refl _) (by omega) (Nat.le_refl _) (fun x h1 h2=>by omega) (fun x h1 h2=>by omega)
    generalize bs (fun c=>!lt d[mid+m - 1 - c]! d[c]!) (hi - lo) lo hi=s at sp
    obtain⟨s1,s2,st,sf⟩:=sp
    simp only[Bool.not_eq_true',Bool.not_eq_false'] at st sf
    obtain⟨e,he⟩: ∃ x,x=mid+m - s:=⟨_,rfl⟩
    rw[←he]
    obtain⟨d1,hd1⟩: ∃ x,x=if s < m∧m < e then rot m (m - s+(e - m)) (m - s) (e - m) d else d:=⟨_,rfl⟩
    rw[←hd1]
    have hz1:d1.size=d.size:=by rw[hd1];split <;> simp[rot_size]
    have hg1: ∀ p,d1[p]! =if s≤p∧p < mid then d[p+(m - s)]! else if mid≤p∧p < e then d[p - (e - m)]! else d[p]! :=by
      intro p
      rw[hd1]
      by_cases c:s < m∧m < e
      · rw[if_pos c,rot_get _ _ _ _ _ (by omega) (by omega) (by omega) (by omega) (by omega)]
        by_cases c1:s≤p∧p < mid
        · rw[if_pos (by omega),if_pos c1]
        rw[if_neg (by omega),if_neg c1]
        by_cases c2:mid≤p∧p < e
        · rw[if_pos (by omega),if_pos c2]
        rw[if_neg (by omega),if_neg c2]
      rw[if_neg c]
      by_cases c1:s≤p∧p < mid
      · rw[if_pos c1];congr 1;omega
      rw[if_neg c1]
      by_cases c2:mid≤p∧p < e
      · rw[if_pos c2];congr 1;omega
      rw[if_neg c2]
    have hp1:PermIn a b d d1:=by
      rw[hd1]
      split
      · exact rot_permIn a b m _ _ _ d (by omega) (by omega) (by omega) hb
      exact permIn_refl d a b
    clear hd1
    have ga: ∀ p,p < s→d1[p]! =d[p]! :=fun p h=>by rw[hg1,if_neg (by omega),if_neg (by omega)]
    have gb: ∀ p,s≤p→p < mid→d1[p]! =d[p+(m - s)]! :=fun p h g=>by rw[hg1,if_pos ⟨h,g⟩]
    have gc: ∀ p,mid≤p→p < e→d1[p]! =d[p - (e - m)]! :=fun p h g=>by rw[hg1,if_neg (by omega),if_pos ⟨h,g⟩]
    have gd: ∀ p,e≤p→d1[p]! =d[p]! :=fun p h=>by rw[hg1,if_neg (by omega),if_neg (by omega)]
    clear hg1
    have X: ∀ i j,a≤i→i < mid→mid≤j→j < b→R d1[i]! d1[j]! :=by
      intro i j hi hi2 hj hj2
      by_cases c1:i < s
      · rw[ga i c1]
        by_cases c2:j < e
        · rw[gc j hj c2];exact u1 _ _ hi (by omega) (by omega)
        rw[gd j (by omega)]
        have q:R d[s - 1]! d[e]! :=by
          have:=T.neg (i:=s - 1) (j:=mid+m - 1 - (s - 1)) (by omega) (by omega) (by omega) (by omega) (st (s - 1) (by omega) (by omega))
          rw[show mid+m - 1 - (s - 1)=e by omega] at this
          exact this
        have q1:i=s - 1∨R d[i]! d[s - 1]! :=by
          by_cases c:i=s - 1
          · exact .inl c
          exact .inr (u1 _ _ hi (by omega) (by omega))
        have q2:j=e∨R d[e]! d[j]! :=by
          by_cases c:j=e
          · exact .inl c
          exact .inr (u2 _ _ (by omega) (by omega) (by omega))
        have q3:R d[i]! d[e]! :=by
          rcases q1 with rfl|q1
          · exact q
          exact htr _ _ _ q1 q
        rcases q2 with rfl|q2
        · exact q3
        exact htr _ _ _ q3 q2
      rw[gb i (by omega) hi2]
      by_cases c2:j < e
      · rw[gc j hj c2]
        have q:R d[e - 1]! d[s]! :=by
          have:=T.pos (i:=s) (j:=mid+m - 1 - s) (by omega) (by omega) (by omega) (by omega) (sf s (by omega) (by omega))
          rw[show mid+m - 1 - s=e - 1 by omega] at this
          exact this
        have q1:i+(m - s)=e - 1∨R d[i+(m - s)]! d[e - 1]! :=by
          by_cases c:i+(m - s)=e - 1
          · exact .inl c
          exact .inr (u2 _ _ (by omega) (by omega) (by omega))
        have q2:j - (e - m)=s∨R d[s]! d[j - (e - m)]! :=by
          by_cases c:j - (e - m)=s
          · exact .inl c
          exact .inr (u1 _ _ (by omega) (by omega) (by omega))
        have q3:R d[i+(m - s)]! d[s]! :=by
          rcases q1 with q1|q1
          · rw[q1];exact q
          exact htr _ _ _ q1 q
        rcases q2 with q2|q2
        · rw[q2];exact q3
        exact htr _ _ _ q3 q2
      rw[gd j (by omega)];exact u2 _ _ (by omega) (by omega) (by omega)
    obtain⟨d2,hd2⟩: ∃ x,x=if a < s∧s < mid then sym lt f a s mid d1 else d1:=⟨_,rfl⟩
    rw[←hd2]
    have h2:PermIn a mid d1 d2∧Up R a mid d2:=by
      rw[hd2]
      have v1:Up R a s d1:=fun i j hi hij hj=>by rw[ga i (by omega),ga j hj];exact u1 _ _ hi hij (by omega)
      have v2:Up R s mid d1:=fun i j hi hij hj=>by rw[gb i hi (by omega),gb j (by omega) hj];exact u2 _ _ (by omega) (by omega) (by omega)
      by_cases c:a < s∧s < mid
      · rw[if_pos c]
        exact sym_spec hir htr f a s mid d1 (by omega) c.1 c.2 (by omega) v1 v2 (fun i j hi hi2 hj hj2=>by rw[ga i hi2,gb j hj hj2];exact T i (j+(m - s)) hi (by omega) (by omega) (by omega))
      rw[if_neg c]
      refine⟨permIn_refl d1 a mid,?_⟩
      by_cases c1:a < s
      · obtain rfl:s=mid:=by omega
        exact v1
      obtain rfl:s=a:=by omega
      exact v2
    clear hd2
    obtain⟨p2,w2⟩:=h2
    have hz2:d2.size=d.size:=by rw[p2.1,hz1]
    have g2: ∀ p,mid≤p→d2[p]! =d1[p]! :=fun p h=>p2.2.1 p (.inr h)
    have h3:PermIn mid b d2 (if mid < e∧e < b then sym lt f mid e b d2 else d2)∧Up R mid b (if mid < e∧e < b then sym lt f mid e b d2 else d2):=by
      have v1:Up R mid e d2:=fun i j hi hij hj=>by rw[g2 i hi,g2 j (by omega),gc i hi (by omega),gc j (by omega) hj];exact u1 _ _ (by omega) (by omega) (by omega)
      have v2:Up R e b d2:=fun i j hi hij hj=>by rw[g2 i (by omega),g2 j (by omega),gd i hi,gd j (by omega)];exact u2 _ _ (by omega) (by omega) (by omega)
      by_cases c:mid < e∧e < b
      · rw[if_pos c]
        exact sym_spec hir htr f mid e b d2 (by omega) c.1 c.2 (by omega) v1 v2 (fun i j hi hi2 hj hj2=>by rw[g2 i hi,g2 j (by omega),gc i hi hi2,gd j hj];exact T _ j (by omega) (by omega) (by omega) (by omega))
      rw[if_neg c]
      refine⟨permIn_refl d2 mid b,?_⟩
      by_cases c1:mid < e
      · obtain rfl:e=b:=by omega
        exact v1
      obtain rfl:e=mid:=by omega
      exact v2
    obtain⟨p3,w3⟩:=h3
    generalize (if mid < e∧e < b then sym lt f mid e b d2 else d2)=d3 at p3 w3
    refine⟨permIn_trans _ _ _ a b hp1 (permIn_trans _ _ _ a b (permIn_mono d1 d2 a mid a b (Nat.le_refl _) (by omega) (by omega) p2) (permIn_mono d2 d3 mid b a b (by omega) (Nat.le_refl _) (by omega) p3)),?_⟩
    have X3: ∀ i j,a≤i→i < mid→mid≤j→j < b→R d3[i]! d3[j]! :=by
      intro i j hi hi2 hj hj2
      rw[p3.2.1 i (.inl hi2)]
      refine permIn_all d2 d3 mid b (fun y=>R d2[i]! y) (by omega) p3 (fun j hj hj2=>?_) j hj hj2
      rw[g2 j hj]
      exact permIn_all d1 d2 a mid (fun x=>R x d1[j]!) (by omega) p2 (fun i hi hi2=>X i j hi hi2 hj hj2) i hi hi2
    intro i j hi hij hj
    by_cases c1:j < mid
    · rw[p3.2.1 i (.inl (by omega)),p3.2.1 j (.inl c1)];exact w2 i j hi hij c1
    by_cases c2:i < mid
    · exact X3 i j hi c2 (by omega) hj
    exact w3 i j (by omega) hij hj
end Go.Proofs.Ytefhljhpcpajgaa.Stable
namespace Go.Proofs.Ytefhljhpcpajgaa.Stable
open Go.Sort
variable {α:Type} [Inhabited α]
def blk (lt:α→α→Bool) (n:Nat):Nat→Nat→Array α→Array α
  |0,_,d=>d
  |f+1,a,d=>if a+20≤n then blk lt n f (a+20) (insertionSort lt d a (a+20))else insertionSort lt d a n
def mrg (lt:α→α→Bool) (n z:Nat):Nat→Nat→Array α→Array α
  |0,_,d=>d
  |f+1,a,d=>if a+2 * z≤n then mrg lt n z f (a+2 * z) (sym lt n a (a+z) (a+2 * z) d)else if a+z < n then sym lt n a (a+z) n d else d
def mrgs (lt:α→α→Bool) (n:Nat):Nat→Nat→Array α→Array α
  |0,_,d=>d
  |f+1,z,d=>if z < n then mrgs lt n f (z * 2) (mrg lt n z (n+1) 0 d)else d
def stable (lt:α→α→Bool) (n:Nat) (d:Array α):Array α:=mrgs lt n n 20 (blk lt n (n+1) 0 d)
theorem ins_size (lt:α→α→Bool) (a:Nat): ∀ (j:Nat) (d:Array α),(insInner lt a j d).size=d.size
  |0,d=>rfl
  |j+1,d=>by
    simp only[insInner]
    split
    · rw[ins_size lt a j,swp_size]
    rfl
theorem outer_size (lt:α→α→Bool) (a b:Nat): ∀ (n i:Nat) (d:Array α),b - i=n→(insOuter lt a b i d).size=d.size
  |0,i,d,h=>by rw[insOuter,if_neg (by omega)]
  |n+1,i,d,h=>by rw[insOuter,if_pos (by omega),outer_size lt a b n (i+1) _ (by omega),ins_size]
theorem insertion_size (lt:α→α→Bool) (a b:Nat) (d:Array α):(insertionSort lt d a b).size=d.size:=by unfold insertionSort;exact outer_size _ _ _ _ _ _ rfl
variable (pl:α→Nat) (key:α→Int)
def ltK (x y:α):Bool:=decide (key y < key x)
def RK (x y:α):Prop:=key y < key x∨(key x=key y∧pl x < pl y)
omit [Inhabited α] in
theorem RK_asymm (x y:α) (h:RK pl key x y): ¬ RK pl key y x:=by unfold RK at *;omega
omit [Inhabited α] in
theorem RK_trans (x y z:α) (h:RK pl key x y) (g:RK pl key y z):RK pl key x z:=by unfold RK at *;omega
theorem inner_up (a:Nat): ∀ (j:Nat) (d:Array α) (i:Nat),j≤i→a≤j→i < d.size→(∀ p q,a≤p→p < q→q≤i→p≠j→q≠j→RK pl key d[p]! d[q]!)→(∀ q,j < q→q≤i→RK pl key d[j]! d[q]!)→(∀ p,a≤p→p < j→pl d[p]! < pl d[j]!)→Up (RK pl key) a (i+1) (insInner (ltK key) a j d)
  |0,d,i,h1,h2,h3,hr,hg,hp=>by
    rw[insInner]
    intro p q hap hpq hq
    by_cases c:p=0
    · subst c;exact hg q (by omega) (by omega)
    exact hr p q hap hpq (by omega) c (by omega)
  |j+1,d,i,h1,h2,h3,hr,hg,hp=>by
    rw[insInner]
    by_cases c:(decide (j+1 > a)&&ltK key d[j+1]! d[j]!)=true
    · rw[if_pos c]
      simp only[Bool.and_eq_true,decide_eq_true_eq,ltK] at c
      have g:=fun q=>swp_get d (show j+1 < d.size by omega) (show j < d.size by omega) q
      refine inner_up a j _ i (by omega) (by omega) (by rw[swp_size];exact h3) ?_ ?_ ?_
      · intro p q hap hpq hq hpj hqj
        rw[g,g,if_neg hpj,if_neg hqj]
        by_cases c1:q=j+1
        · subst c1
          rw[if_neg (by omega),if_pos rfl]
          exact hr p j hap (by omega) (by omega) (by omega) (by omega)
        rw[if_neg c1]
        by_cases c2:p=j+1
        · subst c2;rw[if_pos rfl];exact hr j q (by omega) (by omega) hq (by omega) c1
        rw[if_neg c2];exact hr p q hap hpq hq c2 c1
      · intro q hq hqi
        rw[g,g,if_pos rfl,if_neg (by omega)]
        by_cases c1:q=j+1
        · rw[if_pos c1];exact .inl c.2
        rw[if_neg c1];exact hg q (by omega) hqi
      intro p hap hpj
      rw[g,g,if_pos rfl,if_neg (by omega),if_neg (by omega)]
      exact hp p hap (by omega)
    rw[if_neg c]
    have hs:a < j+1→RK pl key d[j]! d[j+1]! :=fun h=>by
      have: ¬ key d[j]! < key d[j+1]! :=fun g=>c (by simp[ltK,g,h])
      have:=hp j (by omega) (by omega)
      unfold RK;omega
    intro p q hap hpq hq
    by_cases c1:q=j+1
    · subst c1
      by_cases c2:p=j
      · subst c2;exact hs (by omega)
      exact RK_trans pl key _ _ _ (hr p j hap (by omega) (by omega) (by omega) (by omega)) (hs (by omega))
    by_cases c2:p=j+1
    · subst c2;exact hg q (by omega) (by omega)
    exact hr p q hap hpq (by omega) c2 c1
theorem inner_permIn (lt:α→α→Bool) (a b:Nat): ∀ (j:Nat) (d:Array α),a≤j→j < b→b≤d.size→PermIn a b d (insInner lt a j d)
  |0,d,_,_,_=>by rw[insInner];exact permIn_refl d a b
  |j+1,d,h1,h2,h3=>by
    rw[insInner]
    split
    · rename_i c
      simp only[Bool.and_eq_true,decide_eq_true_eq] at c
      exact permIn_trans _ _ _ a b (swp_permIn d a b (j+1) j h1 h2 (by omega) (by omega) h3) (inner_permIn lt a b j _ (by omega) (by omega) (by rw[swp_size];exact h3))
    exact permIn_refl d a b
theorem outer_up (a b:Nat): ∀ (n i:Nat) (d:Array α),b - i=n→a < i→i≤b→b≤d.size→Up (RK pl key) a i d→(∀ q,i≤q→q < b→∀ p,a≤p→p < q→pl d[p]! < pl d[q]!)→PermIn a b d (insOuter (ltK key) a b i d)∧Up (RK pl key) a b (insOuter (ltK key) a b i d)
  |0,i,d,hn,_,hib,_,hs,_=>by
    obtain rfl:i=b:=by omega
    rw[insOuter,if_neg (by omega)]
    exact⟨permIn_refl d a i,hs⟩
  |n+1,i,d,hn,hai,hib,hb,hs,hp=>by
    have hlt:i < b:=by omega
    rw[insOuter,if_pos hlt]
    have p1:PermIn a (i+1) d (insInner (ltK key) a i d):=inner_permIn _ a (i+1) i d (by omega) (by omega) (by omega)
    have u1:=inner_up pl key a i d i (Nat.le_refl _) (by omega) (by omega) (fun p q hap hpq hq _ hqi=>hs p q hap hpq (by omega)) (fun q h1 h2=>by omega) (fun p hap hpi=>hp i (Nat.le_refl _) hlt p hap hpi)
    have h2:=outer_up a b n (i+1) (insInner (ltK key) a i d) (by omega) (by omega) (by omega) (by rw[p1.1];exact hb) u1 (fun q hq hqb p hap hpq=>by
      rw[p1.2.1 q (.inr hq)]
      by_cases c:p < i+1
      · exact permIn_all d _ a (i+1) (fun x=>pl x < pl d[q]!) (by omega) p1 (fun p' h1 h2=>hp q (by omega) hqb p' h1 (by omega)) p hap c
      rw[p1.2.1 p (.inr (by omega))];exact hp q (by omega) hqb p hap hpq)
    exact⟨permIn_trans _ _ _ a b (permIn_mono d _ a (i+1) a b (Nat.le_refl _) hlt hb p1) h2.1,h2.2⟩
theorem insertion_up (a b:Nat) (d:Array α) (hab:a≤b) (hb:b≤d.size) (hp: ∀ p q,a≤p→p < q→q < b→pl d[p]! < pl d[q]!):PermIn a b d (insertionSort (ltK key) d a b)∧Up (RK pl key) a b (insertionSort (ltK key) d a b):=by
  unfold insertionSort
  by_cases h:a=b
  · subst h
    rw[insOuter,if_neg (by omega)]
    exact⟨permIn_refl d a a,fun i j h1 h2 h3=>by omega⟩
  exact outer_up pl key a b (b - (a+1)) (a+1) d rfl (by omega) (by omega) hb (fun i j h1 h2 h3=>by omega) (fun q hq hqb p hap hpq=>hp p q hap hpq hqb)
def Home (z n:Nat) (d:Array α):Prop:= ∀ a,z ∣ a→∀ i,a≤i→i < a+z→i < n→a≤pl d[i]!∧pl d[i]! < a+z
theorem gap {z a b:Nat} (ha:z ∣ a) (hb:z ∣ b) (h:a < b):a+z≤b:=by
  have:=Nat.le_of_dvd (by omega) (Nat.dvd_sub hb ha)
  omega
theorem home_perm {z n a b:Nat} {d d':Array α} (hn:n≤d.size) (ha:z ∣ a) (hb:b≤a+z) (hbn:b≤n) (h:Home pl z n d) (hp:PermIn a b d d'):Home pl z n d':=by
  intro x hx i hi hi2 hin
  by_cases c:a≤i∧i < b
  · have e:x=a:=by
      rcases Nat.lt_trichotomy x a with g|g|g
      · have:=gap hx ha g;omega
      · exact g
      have:=gap ha hx g;omega
    subst e
    exact permIn_all d d' x b (fun y=>x≤pl y∧pl y < x+z) (by omega) hp (fun j h1 h2=>h x hx j h1 (by omega) (by omega)) i c.1 c.2
  rw[hp.2.1 i (by omega)];exact h x hx i hi hi2 hin
theorem blk_spec (n:Nat): ∀ (f a:Nat) (d:Array α),n < a+20 * f→a≤n→d.size=n→20 ∣ a→(∀ i,a≤i→i < n→pl d[i]! =i)→Home pl 20 n d→(∀ x,20 ∣ x→x < a→Up (RK pl key) x (min (x+20) n) d)→(PermIn 0 n d (blk (ltK key) n f a d))∧Home pl 20 n (blk (ltK key) n f a d)∧(∀ x,20 ∣ x→x < n→Up (RK pl key) x (min (x+20) n) (blk (ltK key) n f a d))
  |0,a,d,h0,_,_,_,_,_,_=>by omega
  |f+1,a,d,h0,han,hz,ha,hpl,hh,hu=>by
    rw[blk]
    by_cases c:a+20≤n
    · rw[if_pos c]
      have s:=insertion_up pl key a (a+20) d (by omega) (by omega) (fun p q h1 h2 h3=>by rw[hpl p h1 (by omega),hpl q (by omega) (by omega)];exact h2)
      have hz1:(insertionSort (ltK key) d a (a+20)).size=n:=by rw[insertion_size,hz]
      have hh1:=home_perm pl (by omega) ha (Nat.le_refl _) c hh s.1
      generalize insertionSort (ltK key) d a (a+20)=d1 at s hz1 hh1
      have r:=blk_spec n f (a+20) d1 (by omega) c hz1 (Nat.dvd_add ha (Nat.dvd_refl 20)) (fun i h1 h2=>by rw[s.1.2.1 i (.inr h1)];exact hpl i (by omega) h2) hh1 (fun x hx hxa=>by
        by_cases e:x=a
        · subst e;rw[Nat.min_eq_left c];exact s.2
        have hlt:x < a:=by
          rcases Nat.lt_or_ge x a with g|g
          · exact g
          have:=gap ha hx (by omega);omega
        have:=gap hx ha hlt
        intro i j h1 h2 h3
        rw[s.1.2.1 i (.inl (by omega)),s.1.2.1 j (.inl (by omega))]
        exact hu x hx hlt i j h1 h2 h3)
      exact⟨permIn_trans _ _ _ 0 n (permIn_mono d d1 a (a+20) 0 n (by omega) c (by omega) s.1) r.1,r.2⟩
    rw[if_neg c]
    have s:=insertion_up pl key a n d han (by omega) (fun p q h1 h2 h3=>by rw[hpl p h1 (by omega),hpl q (by omega) (by omega)];exact h2)
    have hh1:=home_perm pl (by omega) ha (by omega) (Nat.le_refl _) hh s.1
    generalize insertionSort (ltK key) d a n=d1 at s hh1
    refine⟨permIn_mono d d1 a n 0 n (by omega) (Nat.le_refl _) (by omega) s.1,hh1,fun x hx hxn=>?_⟩
    by_cases e:x=a
    · subst e;rw[Nat.min_eq_right (by omega)];exact s.2
    have hlt:x < a:=by
      rcases Nat.lt_or_ge x a with g|g
      · exact g
      have:=gap ha hx (by omega);omega
    have:=gap hx ha hlt
    intro i j h1 h2 h3
    rw[s.1.2.1 i (.inl (by omega)),s.1.2.1 j (.inl (by omega))]
    exact hu x hx hlt i j h1 h2 h3
theorem home_twice {z n:Nat} {d:Array α} (h:Home pl z n d) (hz:0 < z):Home pl (2 * z) n d:=by
  intro a ha i hi hi2 hin
  have h1:z ∣ a:=Nat.dvd_trans (Nat.dvd_mul_left z 2) ha
  by_cases c:i < a+z
  · have:=h a h1 i hi c hin;omega
  have:=h (a+z) (Nat.dvd_add h1 (Nat.dvd_refl z)) i (by omega) (by omega) hin;omega
theorem sym_home {n z a b:Nat} {d:Array α} (hz:d.size=n) (z0:0 < z) (ha:z ∣ a) (hb:a+z < b) (hb2:b≤a+2 * z) (hbn:b≤n) (hh: ∀ x,z ∣ x→a≤x→∀ i,x≤i→i < x+z→i < n→x≤pl d[i]!∧pl d[i]! < x+z) (u1:Up (RK pl key) a (a+z) d) (u2:Up (RK pl key) (a+z) b d):PermIn a b d (sym (ltK key) n a (a+z) b d)∧Up (RK pl key) a b (sym (ltK key) n a (a+z) b d):=by
  refine sym_spec (RK_asymm pl key) (RK_trans pl key) n a (a+z) b d (by omega) (by omega) hb (by omega) u1 u2 (fun i j h1 h2 h3 h4=>?_)
  have q1:=hh a ha (Nat.le_refl _) i h1 h2 (by omega)
  have q2:=hh (a+z) (Nat.dvd_add ha (Nat.dvd_refl z)) (by omega) j h3 (by omega) (by omega)
  by_cases c:key d[i]! < key d[j]!
  · exact .inl ⟨by simp[ltK,c],.inl c⟩
  refine .inr ⟨by simp[ltK,c],?_⟩
  unfold RK;omega
theorem mrg_spec (n z:Nat) (z0:0 < z): ∀ (f a:Nat) (d:Array α),n < a+f+1→a≤n→d.size=n→2 * z ∣ a→Home pl (2 * z) n d→(∀ x,z ∣ x→a≤x→∀ i,x≤i→i < x+z→i < n→x≤pl d[i]!∧pl d[i]! < x+z)→(∀ x,2 * z ∣ x→x < a→Up (RK pl key) x (min (x+2 * z) n) d)→(∀ x,z ∣ x→a≤x→x < n→Up (RK pl key) x (min (x+z) n) d)→PermIn 0 n d (mrg (ltK key) n z f a d)∧Home pl (2 * z) n (mrg (ltK key) n z f a d)∧(∀ x,2 * z ∣ x→x < n→Up (RK pl key) x (min (x+2 * z) n) (mrg (ltK key) n z f a d))
  |0,a,d,h0,han,hz,ha,hh,hh1,hu,hv=>by
    obtain rfl:a=n:=by omega
    rw[mrg]
    exact⟨permIn_refl d 0 a,hh,hu⟩
  |f+1,a,d,h0,han,hz,ha,hh,hh1,hu,hv=>by
    have ha1:z ∣ a:=Nat.dvd_trans (Nat.dvd_mul_left z 2) ha
    have haz:z ∣ a+z:=Nat.dvd_add ha1 (Nat.dvd_refl z)
    rw[mrg]
    have old: ∀ (b:Nat) (d1:Array α),PermIn a b d d1→∀ x,2 * z ∣ x→x < a→Up (RK pl key) x (min (x+2 * z) n) d1:=fun b d1 p x hx hxa=>by
      have:=gap hx ha hxa
      intro i j h1 h2 h3
      rw[p.2.1 i (.inl (by omega)),p.2.1 j (.inl (by omega))]
      exact hu x hx hxa i j h1 h2 h3
    by_cases c:a+2 * z≤n
    · rw[if_pos c]
      have s:=sym_home pl key hz z0 ha1 (show a+z < a+2 * z by omega) (Nat.le_refl _) c hh1 (by have:=hv a ha1 (Nat.le_refl _) (by omega);rwa [Nat.min_eq_left (by omega)] at this) (by have:=hv (a+z) haz (by omega) (by omega);rwa [Nat.min_eq_left (by omega),show a+z+z=a+2 * z by omega] at this)
      have hz1:(sym (ltK key) n a (a+z) (a+2 * z) d).size=n:=by rw[sym_size,hz]
      generalize sym (ltK key) n a (a+z) (a+2 * z) d=d1 at s hz1
      have hold:=old (a+2 * z) d1 s.1
      have r:=mrg_spec n z z0 f (a+2 * z) d1 (by omega) c hz1 (Nat.dvd_add ha (Nat.dvd_refl _)) (home_perm pl (by omega) ha (Nat.le_refl _) c hh s.1) (fun x hx hax i h1 h2 h3=>by rw[s.1.2.1 i (.inr (by omega))];exact hh1 x hx (by omega) i h1 h2 h3) (fun x hx hxa=>by
          by_cases e:x=a
          · subst e;rw[Nat.min_eq_left c];exact s.2
          · have hlt:x < a:=by
              rcases Nat.lt_or_ge x a with g|g
              · exact g
              have:=gap ha hx (by omega);omega
            exact hold x hx hlt) (fun x hx hax hxn=>by
          intro i j h1 h2 h3
          rw[s.1.2.1 i (.inr (by omega)),s.1.2.1 j (.inr (by omega))]
          exact hv x hx (by omega) hxn i j h1 h2 h3)
      exact⟨permIn_trans _ _ _ 0 n (permIn_mono d d1 a (a+2 * z) 0 n (by omega) c (by omega) s.1) r.1,r.2⟩
    rw[if_neg c]
    have fin: ∀ (d1:Array α),PermIn a n d d1→Up (RK pl key) a n d1→PermIn 0 n d d1∧Home pl (2 * z) n d1∧(∀ x,2 * z ∣ x→x < n→Up (RK pl key) x (min (x+2 * z) n) d1):=fun d1 p u=>by
      refine⟨permIn_mono d d1 a n 0 n (by omega) (Nat.le_refl _) (by omega) p,home_perm pl (by omega) ha (by omega) (Nat.le_refl _) hh p,fun x hx hxn=>?_⟩
      by_cases e:x=a
      · subst e;rw[Nat.min_eq_right (by omega)];exact u
      have hlt:x < a:=by
        rcases Nat.lt_or_ge x a with g|g
        · exact g
        have:=gap ha hx (by omega);omega
      exact old n d1 p x hx hlt
    by_cases g:a+z < n
    · rw[if_pos g]
      have s:=sym_home pl key hz z0 ha1 g (by omega) (Nat.le_refl _) hh1 (by have:=hv a ha1 (Nat.le_refl _) (by omega);rwa [Nat.min_eq_left (by omega)] at this) (by have:=hv (a+z) haz (by omega) (by omega);rwa [Nat.min_eq_right (by omega)] at this)
      exact fin _ s.1 s.2
    rw[if_neg g]
    refine fin d (permIn_refl d a n) ?_
    by_cases e:a < n
    · have:=hv a ha1 (Nat.le_refl _) e;rwa [Nat.min_eq_right (by omega)] at this
    intro i j h1 h2 h3;omega
theorem mrg_size (lt:α→α→Bool) (n z:Nat): ∀ (f a:Nat) (d:Array α),(mrg lt n z f a d).size=d.size
  |0,a,d=>rfl
  |f+1,a,d=>by
    rw[mrg]
    split
    · rw[mrg_size lt n z f,sym_size]
    split
    · rw[sym_size]
    rfl
theorem blk_size (lt:α→α→Bool) (n:Nat): ∀ (f a:Nat) (d:Array α),(blk lt n f a d).size=d.size
  |0,a,d=>rfl
  |f+1,a,d=>by
    rw[blk]
    split
    · rw[blk_size lt n f,insertion_size]
    rw[insertion_size]
theorem mrgs_size (lt:α→α→Bool) (n:Nat): ∀ (f z:Nat) (d:Array α),(mrgs lt n f z d).size=d.size
  |0,a,d=>rfl
  |f+1,a,d=>by
    rw[mrgs]
    split
    · rw[mrgs_size lt n f,mrg_size]
    rfl
theorem mrgs_spec (n:Nat): ∀ (f z:Nat) (d:Array α),n < z+f+1→0 < z→d.size=n→Home pl z n d→(∀ x,z ∣ x→x < n→Up (RK pl key) x (min (x+z) n) d)→PermIn 0 n d (mrgs (ltK key) n f z d)∧Up (RK pl key) 0 n (mrgs (ltK key) n f z d)
  |0,z,d,h0,z0,hz,hh,hu=>by
    rw[mrgs]
    refine⟨permIn_refl d 0 n,?_⟩
    by_cases e:0 < n
    · have:=hu 0 (Nat.dvd_zero z) e;rwa [Nat.min_eq_right (by omega)] at this
    intro i j h1 h2 h3;omega
  |f+1,z,d,h0,z0,hz,hh,hu=>by
    rw[mrgs]
    by_cases c:z < n
    · rw[if_pos c]
      have r:=mrg_spec pl key n z z0 (n+1) 0 d (by omega) (by omega) hz (Nat.dvd_zero _) (home_twice pl hh z0) (fun x hx _=>hh x hx) (fun x hx h=>by omega) (fun x hx _ hxn=>hu x hx hxn)
      have hz1:(mrg (ltK key) n z (n+1) 0 d).size=n:=by rw[mrg_size,hz]
      generalize mrg (ltK key) n z (n+1) 0 d=d1 at r hz1
      rw[show z * 2=2 * z from Nat.mul_comm z 2]
      have q:=mrgs_spec n f (2 * z) d1 (by omega) (by omega) hz1 r.2.1 r.2.2
      exact⟨permIn_trans _ _ _ 0 n r.1 q.1,q.2⟩
    rw[if_neg c]
    refine⟨permIn_refl d 0 n,?_⟩
    by_cases e:0 < n
    · have:=hu 0 (Nat.dvd_zero z) e;rwa [Nat.min_eq_right (by omega)] at this
    intro i j h1 h2 h3;omega
theorem stable_spec (n:Nat) (d:Array α) (hz:d.size=n) (hpl: ∀ i,i < n→pl d[i]! =i):PermIn 0 n d (stable (ltK key) n d)∧Up (RK pl key) 0 n (stable (ltK key) n d):=by
  unfold stable
  by_cases hn:n=0
  · subst hn
    exact⟨by rw[mrgs,blk,if_neg (by omega)];exact(insertion_up pl key 0 0 d (Nat.le_refl _) (by omega) (fun p q h1 h2 h3=>by omega)).1,fun i j h1 h2 h3=>by omega⟩
  have b:=blk_spec pl key n (n+1) 0 d (by omega) (by omega) hz (Nat.dvd_zero _) (fun i _ h=>hpl i h) (fun a ha i h1 h2 h3=>by rw[hpl i h3];omega) (fun x hx h=>by omega)
  have hz1:(blk (ltK key) n (n+1) 0 d).size=n:=by rw[blk_size,hz]
  generalize blk (ltK key) n (n+1) 0 d=d1 at b hz1
  have m:=mrgs_spec pl key n n 20 d1 (by omega) (by omega) hz1 b.2.1 b.2.2
  exact⟨permIn_trans _ _ _ 0 n b.1 m.1,m.2⟩
end Go.Proofs.Ytefhljhpcpajgaa.Stable
namespace Go.Proofs.Ytefhljhpcpajgaa.F
open Go.Sort Go.Shelf Go.Lib
open Go.RowKit Go.Proofs.YtefhljhpcpajgaaX Go.Proofs.YtefhljhpcpajgaaW.PrintWords Go.Proofs.YtefhljhpcpajgaaW.PrintLast Go.Proofs.YtefhljhpcpajgaaW.PrintMore
theorem dI.calls (rb:Nat) (A:Option Addr) (c:Nat) (l:List Int) (i:Nat) (w:World) (hi:i < l.length) (hb:w.cell? ⟨rb,0,none⟩=some (.slice A l.length c)) (hr:Kd.C (Kd.int .i64) w A l.length l):
  Calls Try.prog 109 #[.int .i64 (i:Int),.pointer (some ⟨rb,0,none⟩)] w fun e w'=>e= .returned (.int .i64 l[i])∧∃ q,w'=w.drewN q:=by
 have p101:0≤(i:Int):=by omega
 have q101:(i:Int) < (l.length:Int):=by omega
 obtain⟨ad101,e101,hx101_0⟩:=Kd.at_int hr (i:Int) p101 q101
 cases e101
 have hrd:rd l (i:Int)=l[i] :=by unfold rd;simp[List.getD_eq_getElem?_getD,hi]
 rw[hrd] at hx101_0
 simp only[Int.toNat_natCast] at hx101_0
 replace p101:=eq_true p101
 replace q101:=eq_true q101
 go_enter Try.func109,Try.ntmps109
 go_wp2
 go_ret
 exact⟨rfl,0,rfl⟩
theorem dH.calls (x:Int) (w:World):Calls Try.prog 149 #[.int .i64 x] w fun e w'=>e= .returned (.bool false)∧∃ q,w'=w.drewN q:=by
 go_enter Try.func149,Try.ntmps149
 go_wp2
 go_ret
 exact⟨by simp,0,rfl⟩
def cmpI (x y:Int):Int:=if x < y then -1 else if x > y then 1 else 0
theorem dJ.calls (x y:Int) (w:World):Calls Try.prog 140 #[.int .i64 x,.int .i64 y] w fun e w'=>e= .returned (.int .i64 (cmpI x y))∧∃ q,w'=w.drewN q:=by
 unfold cmpI
 go_enter Try.func140,Try.ntmps140
 have hb1:(if x < y then(-1:Int)else if x > y then 1 else 0)=if x < y then -1 else if x > y then 1 else 0:=rfl
 by_cases h1:x < y
 ·rw[if_pos h1]
  have h1b:decide (x < y)=true:=decide_eq_true h1;go_wp2;repeat(go_quiet (first|(go_at_call 149;(with_reducible refine(dH.calls _ _).mono ?_);rintro e w' ⟨rfl,⟨nd,rfl⟩⟩;(try first|exact⟨rfl,_,World.drewN_drewN _ _ _⟩|exact⟨rfl,_,rfl⟩)));try go_wp2)
  go_ret;exact⟨rfl,0,rfl⟩
 rw[if_neg h1]
 have h1b:decide (x < y)=false:=decide_eq_false h1
 by_cases h2:y < x
 ·rw[if_pos h2]
  have h2b:decide (y < x)=true:=decide_eq_true h2;go_wp2;repeat(go_quiet (first|(go_at_call 149;(with_reducible refine(dH.calls _ _).mono ?_);rintro e w' ⟨rfl,⟨nd,rfl⟩⟩;(try first|exact⟨rfl,_,World.drewN_drewN _ _ _⟩|exact⟨rfl,_,rfl⟩)));try go_wp2)
  go_ret;exact⟨rfl,0,rfl⟩
 rw[if_neg h2]
 have h2b:decide (y < x)=false:=decide_eq_false h2
 go_wp2
 repeat(go_quiet (first|(go_at_call 149;(with_reducible refine(dH.calls _ _).mono ?_);rintro e w' ⟨rfl,⟨nd,rfl⟩⟩;(try first|exact⟨rfl,_,World.drewN_drewN _ _ _⟩|exact⟨rfl,_,rfl⟩)));try go_wp2)
 go_ret
 exact⟨rfl,0,rfl⟩
theorem dG.calls (kb rb:Nat) (A:Option Addr) (c:Nat) (l:List Int) (x y:Nat) (w:World) (hx:x < l.length) (hy:y < l.length) (hk:w.cell? ⟨kb,0,none⟩=some (.func (.func 109) #[] #[.pointer (some ⟨rb,0,none⟩)])) (hb:w.cell? ⟨rb,0,none⟩=some (.slice A l.length c)) (hr:Kd.C (Kd.int .i64) w A l.length l):
  Calls Try.prog 139 #[.int .i64 (x:Int),.int .i64 (y:Int),.pointer (some ⟨kb,0,none⟩)] w fun e w'=>e= .returned (.int .i64 (cmpI l[y] l[x]))∧∃ q,w'=w.drewN q:=by
 have HK:=Aside0.mk hk
 have HB:=Aside0.mk hb
 have HR:=Aside0.mk hr
 clear hb hr
 go_enter Try.func139,Try.ntmps139
 go_wp2
 repeat(go_quiet (first|(go_at_call 109;(with_reducible refine(dI.calls rb A c l _ _ ?s0 ?s1 ?s2).mono ?_);(case s0=>assumption);(case s1=>exact HB.out);(case s2=>repeat(first|exact HR.out|(with_reducible refine Kd.C_drewN ?_ _)|(with_reducible refine Kd.C_drew ?_)));rintro e w' ⟨rfl,⟨nd,rfl⟩⟩;(try first|exact⟨rfl,_,World.drewN_drewN _ _ _⟩|exact⟨rfl,_,rfl⟩))|(go_at_call 140;(with_reducible refine(dJ.calls _ _ _).mono ?_);rintro e w' ⟨rfl,⟨nd,rfl⟩⟩;(try first|exact⟨rfl,_,World.drewN_drewN _ _ _⟩|exact⟨rfl,_,rfl⟩)));try go_wp2)
 go_ret
 exact⟨rfl,_,rfl⟩
open Go.Sort Go.Shelf Go.Lib in
theorem sorted_heap {α:Type} [Inhabited α] (enc:α→Value) (w:World) (blk off m:Nat) (dk:Array α) (os:Array Obj) (k:Nat) (hk:k < w.heap.size) (hne:k≠blk):(sortWorld enc w blk off m dk os).heap[k]? =w.heap[k]? :=by
  unfold sortWorld grow putRow mapBlock
  show((Array.modify w.heap blk _)++os)[k]? =_
  rw[Array.getElem?_append_left (by simpa using hk),Array.getElem?_modify,if_neg (fun e=>hne e.symm)]
open Go.Sort Go.Shelf Go.Lib in
theorem sorted_below {α:Type} [Inhabited α] (enc:α→Value) {w0 w:World} {B blk off m:Nat} {dk:Array α} {os:Array Obj} (hB:Below B w0 w) (hb:B≤blk) (hs:B≤w.heap.size):Below B w0 (sortWorld enc w blk off m dk os):=
  ⟨hB.os,hB.tape,hB.output,Nat.le_trans hB.size (by unfold sortWorld;rw[size_grow,Go.Proofs.size_putRow];show w.heap.size≤w.heap.size+_;omega),fun k hk=>by rw[sorted_heap enc w blk off m dk os k (by omega) (by omega)];exact hB.block k hk⟩
def pinN (N i:Nat):Nat:=if i < N then i else 0
def encP (N:Nat) (i:Nat):Value:= .int .i64 ((pinN N i:Nat):Int)
def keyOf (l:List Int) (i:Nat):Int:=l.getD (pinN l.length i) 0
def cfP (l:List Int) (x y:Nat):Int:=cmpI (keyOf l y) (keyOf l x)
theorem pin_lt {N:Nat} (h:0 < N) (i:Nat):pinN N i < N:=by unfold pinN;split <;> omega
theorem pin_of {N i:Nat} (h:i < N):pinN N i=i:=by unfold pinN;rw[if_pos h]
theorem dG.lays (kb rb:Nat) (A:Option Addr) (c:Nat) (l:List Int) (hl:0 < l.length) (blk off size:Nat) (w0 w:World) (hb:w0.cell? ⟨rb,0,none⟩=some (.slice A l.length c)) (hr:Kd.C (Kd.int .i64) w0 A l.length l)
    (hB:Below w0.heap.size w0 w) (hblk:w0.heap.size≤blk) (hbw:blk≤w.heap.size) (hkb:kb < blk) (hk:w.cell? ⟨kb,0,none⟩=some (.func (.func 109) #[] #[.pointer (some ⟨rb,0,none⟩)])):
    CmpLays1 Try.prog 139 #[.pointer (some ⟨kb,0,none⟩)] (encP l.length) (cfP l) blk off size w:=fun m os dk hs x y=>by
  have H1:=sorted_below (encP l.length) (off:=off) (m:=m) (dk:=dk) (os:=os) hB hblk hB.size
  have H2:=sorted_below (encP l.length) (off:=off) (m:=m) (dk:=dk) (os:=os) (Below.refl blk w) (Nat.le_refl _) hbw
  have:=dG.calls kb rb A c l (pinN l.length x) (pinN l.length y) (sortWorld (encP l.length) w blk off m dk os) (pin_lt hl x) (pin_lt hl y) ((H2.cell (p:=⟨kb,0,none⟩) hkb).trans hk) ((H1.cell (World.block_lt_of_cell? w0 _ hb)).trans hb) (Kd.C_below hr H1)
  refine this.mono ?_
  rintro e w' ⟨he,q,hq⟩
  refine⟨?_,q,#[],by rw[hq,grow_empty]⟩
  rw[he]
  unfold cfP keyOf
  simp[List.getD_eq_getElem?_getD,pin_lt hl x,pin_lt hl y]
theorem cfP_lt (l:List Int):ltOf (cfP l)=Stable.ltK (keyOf l):=by
  funext x y
  unfold ltOf cfP cmpI Stable.ltK
  by_cases h1:keyOf l y < keyOf l x
  · rw[if_pos h1];simp[h1]
  rw[if_neg h1]
  by_cases h2:keyOf l y > keyOf l x
  · rw[if_pos h2];simp;omega
  rw[if_neg h2];simp;omega
end Go.Proofs.Ytefhljhpcpajgaa.F
set_option linter.unusedVariables false
namespace Go.Proofs.Ytefhljhpcpajgaa.F
open Go.Sort Go.Shelf Go.Lib
open Go.RowKit Go.Proofs.YtefhljhpcpajgaaX Go.Proofs.YtefhljhpcpajgaaW.PrintWords Go.Proofs.YtefhljhpcpajgaaW.PrintLast Go.Proofs.YtefhljhpcpajgaaW.PrintMore
open Go.Proofs.Ytefhljhpcpajgaa.Stable
theorem bs_in (p:Nat→Bool): ∀ (f i j:Nat),i≤j→j≤f+i→i≤bs p f i j∧bs p f i j≤j
  |0,i,j,h,_=>by rw[bs];omega
  |f+1,i,j,h,h2=>by
    rw[bs]
    by_cases c:i < j
    · rw[if_pos c]
      by_cases e:p ((i+j) / 2)=true
      · rw[if_pos e];have:=bs_in p f ((i+j) / 2+1) j (by omega) (by omega);omega
      rw[if_neg e];have:=bs_in p f i ((i+j) / 2) (by omega) (by omega);omega
    rw[if_neg c];omega
theorem swap_range {α:Type} [Inhabited α] (enc:α→Value) (g:Nat) (cb:Array Value) (blk off cap a b n:Nat) (d0 d:Array α) (w0 w:World) (R:Row1 enc w0 blk off d0) (hs:d0.size=d.size) (S:SW enc w0 blk off d w) (ha:a+n≤d.size) (hb:b+n≤d.size) (hsz:d.size < 4611686018427387904):
  Calls Try.prog 167 #[.slice (some ⟨blk,off,none⟩) d.size cap,.int .i64 a,.int .i64 b,.int .i64 n,.func (.func g) #[] cb] w fun e w'=>e= .returned (.tuple #[])∧SW enc w0 blk off (swr a b n 0 d) w':=by
 have mixed:Try.prog.follows Departure.mixedOrders=true:=by kernel_rfl
 have u22:=run_underlying Try.underlying22
 have hcl0:=R.hO.cells
 simp only[Value.cells] at hcl0
 have hst:=R.hO.store Try.prog
 have S0:Aside (SW enc w0 blk off d w):=S
 clear S
 go_enter Try.func167,Try.ntmps167
 go_wp2
 go_loopg[10] n (fun g1 vi wr=> ∃ (i:Nat) (dk:Array α),vi= .int .i64 i∧i≤n∧n≤g1+i∧dk.size=d.size∧Aside (SW enc w0 blk off dk wr)∧Hid (swr a b (n - i) i dk=swr a b n 0 d))
 case atStart=>exact⟨0,d,by first|rfl|go_num,by omega,by omega,rfl,S0,rfl⟩
 case round=>
  clear S0
  obtain⟨i,dk,rfl,hib,hg1,hsk,S1,HO⟩:=hrel
  by_cases hlt:i < n
  ·have hltz:(i:Int) < (n:Int):=by omega
   obtain⟨iN,hiN⟩: ∃ q,q=a+i:=⟨_,rfl⟩
   obtain⟨jN,hjN⟩: ∃ q,q=b+i:=⟨_,rfl⟩
   have ea:((a:Int)+(i:Int)).toNat=iN:=by omega
   have pa:(0:Int)≤(a:Int)+(i:Int):=by omega
   have ba:(a:Int)+(i:Int) < (d.size:Int):=by omega
   have ra:IntKind.i64.wrap ((a:Int)+(i:Int))=(a:Int)+(i:Int):=by rw[IntKind.wrap_i64];omega
   have ec:((b:Int)+(i:Int)).toNat=jN:=by omega
   have pc:(0:Int)≤(b:Int)+(i:Int):=by omega
   have bc:(b:Int)+(i:Int) < (d.size:Int):=by omega
   have rc:IntKind.i64.wrap ((b:Int)+(i:Int))=(b:Int)+(i:Int):=by rw[IntKind.wrap_i64];omega
   obtain⟨x,hx⟩: ∃ x,x=dk[iN]! :=⟨_,rfl⟩
   obtain⟨y,hy⟩: ∃ x,x=dk[jN]! :=⟨_,rfl⟩
   have S3:Aside (SW enc w0 blk off (swp dk iN jN) ((wr.setCell ⟨blk,off+iN,none⟩ (enc y)).setCell ⟨blk,off+jN,none⟩ (enc x)).drew):=by rw[hx,hy];exact S1.out.swapped R iN jN (by omega) (by omega)
   have ca:=S1.out.c1 R (by omega) iN (by omega)
   have cb':=S1.out.c1 R (by omega) jN (by omega)
   have fa:=S1.out.f1 R (by omega) iN (by omega)
   have fb:=S1.out.f1 R (by omega) jN (by omega)
   obtain⟨u,cc⟩:=S1.out.c2 R (by omega) iN jN (by omega) (by omega) (enc y)
   rw[←hx] at ca
   rw[←hy] at cb'
   have HX:Hid (swr a b (n - (i+1)) (i+1) (swp dk iN jN)=swr a b n 0 d):=by
    show _=_
    rw[←HO.out,show n - i=n - (i+1)+1 by omega,swr,hiN,hjN]
   have hz:(swp dk iN jN).size=d.size:=by rw[swp_size];exact hsk
   clear S1 hx hy hiN hjN HO
   go_wp2_with fail
   go_big_region_o
   clear ca cb' cc fa fb
   generalize ((wr.setCell ⟨blk,off+iN,none⟩ (enc y)).setCell ⟨blk,off+jN,none⟩ (enc x)).drew=w3 at S3⊢
   clear ea ec
   go_wp2
   go_roundg (n - (i+1))
   case measure=>omega
   case rel=>exact⟨i+1,swp dk iN jN,by first|rfl|go_num|(congr 1;omega),by omega,by omega,hz,S3,HX⟩
  have hltz: ¬ (i:Int) < (n:Int):=by omega
  obtain rfl:i=n:=by omega
  go_wp2
  go_end0
  exact⟨rfl,by rw[←HO.out,Nat.sub_self];exact S1.out⟩
theorem rotate_calls {α:Type} [Inhabited α] (enc:α→Value) (g:Nat) (cb:Array Value) (blk off cap a m b:Nat) (d0 d:Array α) (w0 w:World) (R:Row1 enc w0 blk off d0) (hs:d0.size=d.size) (S:SW enc w0 blk off d w) (ha:a < m) (hm:m < b) (hb:b≤d.size) (hsz:d.size < 4611686018427387904):
  Calls Try.prog 163 #[.slice (some ⟨blk,off,none⟩) d.size cap,.int .i64 a,.int .i64 m,.int .i64 b,.func (.func g) #[] cb] w fun e w'=>e= .returned (.tuple #[])∧SW enc w0 blk off (rot m (m - a+(b - m)) (m - a) (b - m) d) w':=by
 have mixed:Try.prog.follows Departure.mixedOrders=true:=by kernel_rfl
 have S0:Aside (SW enc w0 blk off d w):=S
 have hw1:IntKind.i64.wrap ((m:Int) - (a:Int))=(m:Int) - (a:Int):=by rw[IntKind.wrap_i64];omega
 have hw2:IntKind.i64.wrap ((b:Int) - (m:Int))=(b:Int) - (m:Int):=by rw[IntKind.wrap_i64];omega
 clear S
 go_enter Try.func163,Try.ntmps163
 go_wp2
 go_loopg[10,11] (b - a) (fun g1 vi vj wr=> ∃ (i j f:Nat) (dk:Array α),vi= .int .i64 i∧vj= .int .i64 j∧0 < i∧0 < j∧i≤m∧m+j≤d.size∧i+j≤g1∧i+j≤f∧dk.size=d.size∧Aside (SW enc w0 blk off dk wr)∧Hid (rot m f i j dk=rot m (m - a+(b - m)) (m - a) (b - m) d))
 case atStart=>exact⟨m - a,b - m,m - a+(b - m),d,by(congr 1;omega),by(congr 1;omega),by omega,by omega,by omega,by omega,by omega,Nat.le_refl _,rfl,S0,rfl⟩
 case round=>
  clear S0
  obtain⟨i,j,f,dk,rfl,rfl,hi,hj,him,hmj,hg1,hf,hsk,S1,HO⟩:=hrel
  obtain⟨f,rfl⟩: ∃ q,f=q+1:=⟨f - 1,by omega⟩
  have hwi:IntKind.i64.wrap ((m:Int) - (i:Int))=(m:Int) - (i:Int):=by rw[IntKind.wrap_i64];omega
  by_cases hij:i=j
  ·subst hij
   have hn:((i:Int) !=(i:Int))=false:=by simp
   have hc:Calls Try.prog 167 #[.slice (some ⟨blk,off,none⟩) d.size cap,.int .i64 ((m:Int) - (i:Int)),.int .i64 m,.int .i64 i,.func (.func g) #[] cb] wr fun e w'=>e= .returned (.tuple #[])∧SW enc w0 blk off (rot m (m - a+(b - m)) (m - a) (b - m) d) w':=by
    have:=swap_range enc g cb blk off cap (m - i) m i d0 dk w0 wr R (by omega) S1.out (by omega) (by omega) (by omega)
    rw[hsk,show((m - i:Nat):Int)=(m:Int) - (i:Int) by omega] at this
    rw[←HO.out,rot,if_pos rfl]
    exact this
   have HC:=Aside0.mk hc
   clear hc S1 HO
   go_wp2_with (first|(go_at_call 167;refine HC.out.mono ?_;rintro e w' ⟨rfl,S2⟩;have S3:=Aside0.mk S2;clear S2))
   go_end0
   exact⟨rfl,S3.out⟩
  have hn:((i:Int) !=(j:Int))=true:=by simp;omega
  by_cases hlt:j < i
  ·have hlt':decide ((j:Int) < (i:Int))=true:=decide_eq_true (by omega)
   have hwj:IntKind.i64.wrap ((i:Int) - (j:Int))=(i:Int) - (j:Int):=by rw[IntKind.wrap_i64];omega
   have hc:Calls Try.prog 167 #[.slice (some ⟨blk,off,none⟩) d.size cap,.int .i64 ((m:Int) - (i:Int)),.int .i64 m,.int .i64 j,.func (.func g) #[] cb] wr fun e w'=>e= .returned (.tuple #[])∧SW enc w0 blk off (swr (m - i) m j 0 dk) w':=by
    have:=swap_range enc g cb blk off cap (m - i) m j d0 dk w0 wr R (by omega) S1.out (by omega) (by omega) (by omega)
    rw[hsk,show((m - i:Nat):Int)=(m:Int) - (i:Int) by omega] at this
    exact this
   have HX:Hid (rot m f (i - j) j (swr (m - i) m j 0 dk)=rot m (m - a+(b - m)) (m - a) (b - m) d):=by
    show _=_
    rw[←HO.out,rot,if_neg hij,if_pos hlt]
   have hz:(swr (m - i) m j 0 dk).size=d.size:=by rw[swr_size];exact hsk
   have HC:=Aside0.mk hc
   clear hc S1 HO
   go_wp2_with (first|(go_at_call 167;refine HC.out.mono ?_;rintro e w' ⟨rfl,S2⟩;have S3:=Aside0.mk S2;clear S2))
   go_roundg (i - j+j)
   case measure=>omega
   case rel=>exact⟨i - j,j,f,_,by(congr 1;omega),rfl,by omega,hj,by omega,hmj,by omega,by omega,hz,S3.out,HX⟩
  have hlt':decide ((j:Int) < (i:Int))=false:=decide_eq_false (by omega)
  have hwj:IntKind.i64.wrap ((j:Int) - (i:Int))=(j:Int) - (i:Int):=by rw[IntKind.wrap_i64];omega
  have hw3:IntKind.i64.wrap ((m:Int)+(j:Int))=(m:Int)+(j:Int):=by rw[IntKind.wrap_i64];omega
  have hw4:IntKind.i64.wrap ((m:Int)+(j:Int) - (i:Int))=(m:Int)+(j:Int) - (i:Int):=by rw[IntKind.wrap_i64];omega
  have hc:Calls Try.prog 167 #[.slice (some ⟨blk,off,none⟩) d.size cap,.int .i64 ((m:Int) - (i:Int)),.int .i64 ((m:Int)+(j:Int) - (i:Int)),.int .i64 i,.func (.func g) #[] cb] wr fun e w'=>e= .returned (.tuple #[])∧SW enc w0 blk off (swr (m - i) (m+j - i) i 0 dk) w':=by
   have:=swap_range enc g cb blk off cap (m - i) (m+j - i) i d0 dk w0 wr R (by omega) S1.out (by omega) (by omega) (by omega)
   rw[hsk,show((m - i:Nat):Int)=(m:Int) - (i:Int) by omega,show((m+j - i:Nat):Int)=(m:Int)+(j:Int) - (i:Int) by omega] at this
   exact this
  have HX:Hid (rot m f i (j - i) (swr (m - i) (m+j - i) i 0 dk)=rot m (m - a+(b - m)) (m - a) (b - m) d):=by
   show _=_
   rw[←HO.out,rot,if_neg hij,if_neg hlt]
  have hz:(swr (m - i) (m+j - i) i 0 dk).size=d.size:=by rw[swr_size];exact hsk
  have HC:=Aside0.mk hc
  clear hc S1 HO
  go_wp2_with (first|(go_at_call 167;refine HC.out.mono ?_;rintro e w' ⟨rfl,S2⟩;have S3:=Aside0.mk S2;clear S2))
  go_roundg (i+(j - i))
  case measure=>omega
  case rel=>exact⟨i,j - i,f,_,rfl,by(congr 1;omega),hi,by omega,him,by omega,by omega,by omega,hz,S3.out,HX⟩
end Go.Proofs.Ytefhljhpcpajgaa.F
set_option linter.unusedVariables false
namespace Go.Proofs.Ytefhljhpcpajgaa.F
open Go.Sort Go.Shelf Go.Lib
open Go.RowKit Go.Proofs.YtefhljhpcpajgaaX Go.Proofs.YtefhljhpcpajgaaW.PrintWords Go.Proofs.YtefhljhpcpajgaaW.PrintLast Go.Proofs.YtefhljhpcpajgaaW.PrintMore
open Go.Proofs.Ytefhljhpcpajgaa.Stable
theorem sym_up {α:Type} [Inhabited α] (enc:α→Value) (cf:α→α→Int) (g:Nat) (cb:Array Value) (blk off cap a M b:Nat) (d0 d:Array α) (w0 w:World) (eg: ∀ args w,(callFunc g args).run Try.prog w= .ok (.enter g args) w) (hcmp:CmpLays1 Try.prog g cb enc cf blk off d0.size w0) (R:Row1 enc w0 blk off d0) (hs:d0.size=d.size) (S:SW enc w0 blk off d w) (ha1:a < M) (ha2:M≤a+1) (hm:M < b) (hb:b≤d.size) (hsz:d.size < 4611686018427387904):
  Calls Try.prog 156 #[.slice (some ⟨blk,off,none⟩) d.size cap,.int .i64 a,.int .i64 M,.int .i64 b,.func (.func g) #[] cb] w fun e w'=>e= .returned (.tuple #[])∧SW enc w0 blk off (shU (bs (fun h=>ltOf cf d[h]! d[a]!) (b - M) M b - 1 - a) a d) w':=by
 have mixed:Try.prog.follows Departure.mixedOrders=true:=by kernel_rfl
 have u22:=run_underlying Try.underlying22
 have hcl0:=R.hO.cells
 simp only[Value.cells] at hcl0
 have hst:=R.hO.store Try.prog
 have HC:Aside _:=hcmp
 have S0:Aside (SW enc w0 blk off d w):=S
 have hma:IntKind.i64.wrap ((M:Int) - (a:Int))=1:=by rw[IntKind.wrap_i64];omega
 have hma':(((1:Int)==1)=true):=rfl
 have hspec:M≤bs (fun h=>ltOf cf d[h]! d[a]!) (b - M) M b∧bs (fun h=>ltOf cf d[h]! d[a]!) (b - M) M b≤b:=bs_in _ _ _ _ (by omega) (by omega)
 have HS:=Aside0.mk hspec
 clear S hcmp hspec
 go_enter Try.func156,Try.ntmps156
 go_wp2
 go_loopg[10,11] (b - M) (fun g1 vi vj wr=> ∃ (i j f:Nat),vi= .int .i64 i∧vj= .int .i64 j∧M≤i∧i≤j∧j≤b∧j≤g1+i∧j≤f+i∧Aside (SW enc w0 blk off d wr)∧Hid (bs (fun h=>ltOf cf d[h]! d[a]!) f i j=bs (fun h=>ltOf cf d[h]! d[a]!) (b - M) M b))
 case atStart=>exact⟨M,b,b - M,rfl,rfl,Nat.le_refl _,by omega,Nat.le_refl _,by omega,by omega,S0,rfl⟩
 case round=>
  clear S0
  obtain⟨i,j,f,rfl,rfl,him,hij,hjb,hg1,hf,S1,HO⟩:=hrel
  by_cases hlt:i < j
  ·have hltz:(i:Int) < (j:Int):=by omega
   obtain⟨f,rfl⟩: ∃ q,f=q+1:=⟨f - 1,by omega⟩
   obtain⟨h,hh⟩: ∃ q,q=(i+j) / 2:=⟨_,rfl⟩
   have ea:(((i:Int)+(j:Int)) / 2).toNat=h:=by omega
   have pa:(0:Int)≤((i:Int)+(j:Int)) / 2:=by omega
   have ba:((i:Int)+(j:Int)) / 2 < (d.size:Int):=by omega
   have ra:IntKind.i64.wrap (((i:Int)+(j:Int)) / 2+1)=((i:Int)+(j:Int)) / 2+1:=by rw[IntKind.wrap_i64];omega
   have bc:(a:Int) < (d.size:Int):=by omega
   obtain⟨x,hx⟩: ∃ x,x=d[h]! :=⟨_,rfl⟩
   obtain⟨y,hy⟩: ∃ x,x=d[a]! :=⟨_,rfl⟩
   have la:=S1.out.cl R (by omega) h (by omega)
   have lb:=S1.out.cl R (by omega) a (by omega)
   rw[←hx,hh] at la
   rw[←hy] at lb
   have hc:=S1.out.cmp HC.out (by omega) x y
   cases hlv:ltOf cf d[h]! d[a]! with
   |true=>
    have hd:decide (cf x y < 0)=true:=by rw[hx,hy];exact hlv
    have HX:Hid (bs (fun h=>ltOf cf d[h]! d[a]!) f (h+1) j=bs (fun h=>ltOf cf d[h]! d[a]!) (b - M) M b):=by
     show _=_
     rw[←HO.out,bs,if_pos hlt,if_pos (by rw[←hh];exact hlv),hh]
    clear hx hy hlv
    go_wp2_with fail
    go_quiet_grown (first|(go_at_fn g;refine Calls.grown_of (hc _ _)))
    have S2:Aside (SW enc w0 blk off d (grow (wr.drewN nq) osq)):=S1.out.grown nq osq
    clear la lb hc S1
    generalize grow (wr.drewN nq) osq=w2 at S2⊢
    clear nq osq
    go_wp2
    go_roundg (j - (h+1))
    case measure=>omega
    case rel=>exact⟨h+1,j,f,by(congr 1;omega),rfl,by omega,by omega,hjb,by omega,by omega,S2,HX⟩
   |false=>
    have hd:decide (cf x y < 0)=false:=by rw[hx,hy];exact hlv
    have HX:Hid (bs (fun h=>ltOf cf d[h]! d[a]!) f i h=bs (fun h=>ltOf cf d[h]! d[a]!) (b - M) M b):=by
     show _=_
     rw[←HO.out,bs,if_pos hlt,if_neg (by rw[←hh];simp[hlv]),hh]
    clear hx hy hlv
    go_wp2_with fail
    go_quiet_grown (first|(go_at_fn g;refine Calls.grown_of (hc _ _)))
    have S2:Aside (SW enc w0 blk off d (grow (wr.drewN nq) osq)):=S1.out.grown nq osq
    clear la lb hc S1
    generalize grow (wr.drewN nq) osq=w2 at S2⊢
    clear nq osq
    go_wp2
    go_roundg (h - i)
    case measure=>omega
    case rel=>exact⟨i,h,f,rfl,by(congr 1;omega),him,by omega,by omega,by omega,by omega,S2,HX⟩
  obtain rfl:i=j:=by omega
  obtain⟨s,hs'⟩: ∃ q,q=bs (fun h=>ltOf cf d[h]! d[a]!) (b - M) M b:=⟨_,rfl⟩
  have hsi:i=s:=by
   rw[hs',←HO.out]
   cases f with
   |zero=>rw[bs]
   |succ f=>rw[bs,if_neg hlt]
  have HS2:=HS.out
  rw[←hs',←hsi] at HS2
  rw[←hsi] at hs'
  have HE:=Aside0.mk hs'
  clear HS HO hs' hsi
  have rs:IntKind.i64.wrap ((i:Int) - 1)=(i:Int) - 1:=by rw[IntKind.wrap_i64];omega
  go_wp2
  go_loopg[13] (i - 1 - a) (fun g1 vk wr=> ∃ (k:Nat) (dk:Array α),vk= .int .i64 k∧a≤k∧k≤i - 1∧i - 1≤g1+k∧dk.size=d.size∧Aside (SW enc w0 blk off dk wr)∧Hid (shU (i - 1 - k) k dk=shU (i - 1 - a) a d))
  case atStart=>exact⟨a,d,rfl,Nat.le_refl _,by omega,by omega,rfl,S1,rfl⟩
  case round=>
   clear S1
   obtain⟨k,dk,rfl,hak,hki,hg2,hsk,S1,HO⟩:=hrel
   by_cases hlt:k < i - 1
   ·have hltz:(k:Int) < (i:Int) - 1:=by omega
    obtain⟨jN,hjN⟩: ∃ q,q=k+1:=⟨_,rfl⟩
    have ec:((k:Int)+1).toNat=jN:=by omega
    have pc:(0:Int)≤(k:Int)+1:=by omega
    have bc:(k:Int)+1 < (d.size:Int):=by omega
    have rc:IntKind.i64.wrap ((k:Int)+1)=(k:Int)+1:=by rw[IntKind.wrap_i64];omega
    have ba:(k:Int) < (d.size:Int):=by omega
    obtain⟨x,hx⟩: ∃ x,x=dk[k]! :=⟨_,rfl⟩
    obtain⟨y,hy⟩: ∃ x,x=dk[jN]! :=⟨_,rfl⟩
    have S3:Aside (SW enc w0 blk off (swp dk k jN) ((wr.setCell ⟨blk,off+k,none⟩ (enc y)).setCell ⟨blk,off+jN,none⟩ (enc x)).drew):=by rw[hx,hy];exact S1.out.swapped R k jN (by omega) (by omega)
    have ca:=S1.out.c1 R (by omega) k (by omega)
    have cb':=S1.out.c1 R (by omega) jN (by omega)
    have fa:=S1.out.f1 R (by omega) k (by omega)
    have fb:=S1.out.f1 R (by omega) jN (by omega)
    obtain⟨u,cc⟩:=S1.out.c2 R (by omega) k jN (by omega) (by omega) (enc y)
    rw[←hx] at ca
    rw[←hy] at cb'
    have HX:Hid (shU (i - 1 - (k+1)) (k+1) (swp dk k jN)=shU (i - 1 - a) a d):=by
     show _=_
     rw[←HO.out,show i - 1 - k=i - 1 - (k+1)+1 by omega,shU,hjN]
    have hz:(swp dk k jN).size=d.size:=by rw[swp_size];exact hsk
    clear S1 hx hy hjN HO
    go_wp2_with fail
    go_big_region_o
    clear ca cb' cc fa fb
    generalize ((wr.setCell ⟨blk,off+k,none⟩ (enc y)).setCell ⟨blk,off+jN,none⟩ (enc x)).drew=w3 at S3⊢
    clear ec
    go_wp2
    go_roundg (i - 1 - (k+1))
    case measure=>omega
    case rel=>exact⟨k+1,swp dk k jN,by first|rfl|go_num|(congr 1;omega),by omega,by omega,by omega,hz,S3,HX⟩
   have hltz: ¬ (k:Int) < (i:Int) - 1:=by omega
   obtain rfl:k=i - 1:=by omega
   go_wp2
   (try simp only[Exit.inBlock,Exit.then]);refine bodyPost_ret (results_none rfl _ _ _) rfl ?_
   exact⟨rfl,by rw[←HE.out,←HO.out,Nat.sub_self];exact S1.out⟩
theorem sym_down {α:Type} [Inhabited α] (enc:α→Value) (cf:α→α→Int) (g:Nat) (cb:Array Value) (blk off cap a M b:Nat) (d0 d:Array α) (w0 w:World) (eg: ∀ args w,(callFunc g args).run Try.prog w= .ok (.enter g args) w) (hcmp:CmpLays1 Try.prog g cb enc cf blk off d0.size w0) (R:Row1 enc w0 blk off d0) (hs:d0.size=d.size) (S:SW enc w0 blk off d w) (ha1:a < M) (ha2:a+1 < M) (hm:M < b) (hm2:b≤M+1) (hb:b≤d.size) (hsz:d.size < 4611686018427387904):
  Calls Try.prog 156 #[.slice (some ⟨blk,off,none⟩) d.size cap,.int .i64 a,.int .i64 M,.int .i64 b,.func (.func g) #[] cb] w fun e w'=>e= .returned (.tuple #[])∧SW enc w0 blk off (shD (M - bs (fun h=>!ltOf cf d[M]! d[h]!) (M - a) a M) M d) w':=by
 have mixed:Try.prog.follows Departure.mixedOrders=true:=by kernel_rfl
 have u22:=run_underlying Try.underlying22
 have hcl0:=R.hO.cells
 simp only[Value.cells] at hcl0
 have hst:=R.hO.store Try.prog
 have HC:Aside _:=hcmp
 have S0:Aside (SW enc w0 blk off d w):=S
 have hma:IntKind.i64.wrap ((M:Int) - (a:Int))=(M:Int) - (a:Int):=by rw[IntKind.wrap_i64];omega
 have hma':(((M:Int) - (a:Int)==1)=false):=by simp;omega
 have hmb:IntKind.i64.wrap ((b:Int) - (M:Int))=1:=by rw[IntKind.wrap_i64];omega
 have hspec:a≤bs (fun h=>!ltOf cf d[M]! d[h]!) (M - a) a M∧bs (fun h=>!ltOf cf d[M]! d[h]!) (M - a) a M≤M:=bs_in _ _ _ _ (by omega) (by omega)
 have HS:=Aside0.mk hspec
 clear S hcmp hspec
 go_enter Try.func156,Try.ntmps156
 go_wp2
 go_loopg[14,15] (M - a) (fun g1 vi vj wr=> ∃ (i j f:Nat),vi= .int .i64 i∧vj= .int .i64 j∧a≤i∧i≤j∧j≤M∧j≤g1+i∧j≤f+i∧Aside (SW enc w0 blk off d wr)∧Hid (bs (fun h=>!ltOf cf d[M]! d[h]!) f i j=bs (fun h=>!ltOf cf d[M]! d[h]!) (M - a) a M))
 case atStart=>exact⟨a,M,M - a,rfl,rfl,Nat.le_refl _,by omega,Nat.le_refl _,by omega,by omega,S0,rfl⟩
 case round=>
  clear S0
  obtain⟨i,j,f,rfl,rfl,him,hij,hjb,hg1,hf,S1,HO⟩:=hrel
  by_cases hlt:i < j
  ·have hltz:(i:Int) < (j:Int):=by omega
   obtain⟨f,rfl⟩: ∃ q,f=q+1:=⟨f - 1,by omega⟩
   obtain⟨h,hh⟩: ∃ q,q=(i+j) / 2:=⟨_,rfl⟩
   have ea:(((i:Int)+(j:Int)) / 2).toNat=h:=by omega
   have pa:(0:Int)≤((i:Int)+(j:Int)) / 2:=by omega
   have ba:((i:Int)+(j:Int)) / 2 < (d.size:Int):=by omega
   have ra:IntKind.i64.wrap (((i:Int)+(j:Int)) / 2+1)=((i:Int)+(j:Int)) / 2+1:=by rw[IntKind.wrap_i64];omega
   have bc:(M:Int) < (d.size:Int):=by omega
   obtain⟨x,hx⟩: ∃ x,x=d[M]! :=⟨_,rfl⟩
   obtain⟨y,hy⟩: ∃ x,x=d[h]! :=⟨_,rfl⟩
   have la:=S1.out.cl R (by omega) M (by omega)
   have lb:=S1.out.cl R (by omega) h (by omega)
   rw[←hx] at la
   rw[←hy,hh] at lb
   have hc:=S1.out.cmp HC.out (by omega) x y
   cases hlv:ltOf cf d[M]! d[h]! with
   |false=>
    have hd:decide (cf x y < 0)=false:=by rw[hx,hy];exact hlv
    have HX:Hid (bs (fun h=>!ltOf cf d[M]! d[h]!) f (h+1) j=bs (fun h=>!ltOf cf d[M]! d[h]!) (M - a) a M):=by
     show _=_
     rw[←HO.out,bs,if_pos hlt,if_pos (by rw[←hh];simp[hlv]),hh]
    clear hx hy hlv
    go_wp2_with fail
    go_quiet_grown (first|(go_at_fn g;refine Calls.grown_of (hc _ _)))
    have S2:Aside (SW enc w0 blk off d (grow (wr.drewN nq) osq)):=S1.out.grown nq osq
    clear la lb hc S1
    generalize grow (wr.drewN nq) osq=w2 at S2⊢
    clear nq osq
    go_wp2
    go_roundg (j - (h+1))
    case measure=>omega
    case rel=>exact⟨h+1,j,f,by(congr 1;omega),rfl,by omega,by omega,hjb,by omega,by omega,S2,HX⟩
   |true=>
    have hd:decide (cf x y < 0)=true:=by rw[hx,hy];exact hlv
    have HX:Hid (bs (fun h=>!ltOf cf d[M]! d[h]!) f i h=bs (fun h=>!ltOf cf d[M]! d[h]!) (M - a) a M):=by
     show _=_
     rw[←HO.out,bs,if_pos hlt,if_neg (by rw[←hh];simp[hlv]),hh]
    clear hx hy hlv
    go_wp2_with fail
    go_quiet_grown (first|(go_at_fn g;refine Calls.grown_of (hc _ _)))
    have S2:Aside (SW enc w0 blk off d (grow (wr.drewN nq) osq)):=S1.out.grown nq osq
    clear la lb hc S1
    generalize grow (wr.drewN nq) osq=w2 at S2⊢
    clear nq osq
    go_wp2
    go_roundg (h - i)
    case measure=>omega
    case rel=>exact⟨i,h,f,rfl,by(congr 1;omega),him,by omega,by omega,by omega,by omega,S2,HX⟩
  obtain rfl:i=j:=by omega
  obtain⟨s,hs'⟩: ∃ q,q=bs (fun h=>!ltOf cf d[M]! d[h]!) (M - a) a M:=⟨_,rfl⟩
  have hsi:i=s:=by
   rw[hs',←HO.out]
   cases f with
   |zero=>rw[bs]
   |succ f=>rw[bs,if_neg hlt]
  have HS2:=HS.out
  rw[←hs',←hsi] at HS2
  rw[←hsi] at hs'
  have HE:=Aside0.mk hs'
  clear HS HO hs' hsi
  go_wp2
  go_loopg[17] (M - i) (fun g1 vk wr=> ∃ (k:Nat) (dk:Array α),vk= .int .i64 k∧i≤k∧k≤M∧k≤g1+i∧dk.size=d.size∧Aside (SW enc w0 blk off dk wr)∧Hid (shD (k - i) k dk=shD (M - i) M d))
  case atStart=>exact⟨M,d,rfl,by omega,Nat.le_refl _,by omega,rfl,S1,rfl⟩
  case round=>
   clear S1
   obtain⟨k,dk,rfl,hak,hki,hg2,hsk,S1,HO⟩:=hrel
   by_cases hlt:i < k
   ·have hltz:(i:Int) < (k:Int):=by omega
    obtain⟨kp,rfl⟩: ∃ q,k=q+1:=⟨k - 1,by omega⟩
    obtain⟨kN,hkN⟩: ∃ q,q=kp+1:=⟨_,rfl⟩
    have ez:((kp+1:Nat):Int)=(kN:Int):=by omega
    have ec:((kN:Int) - 1).toNat=kp:=by omega
    have pc:(0:Int)≤(kN:Int) - 1:=by omega
    have bc:(kN:Int) - 1 < (d.size:Int):=by omega
    have rc:IntKind.i64.wrap ((kN:Int) - 1)=(kN:Int) - 1:=by rw[IntKind.wrap_i64];omega
    have ba:(kN:Int) < (d.size:Int):=by omega
    have hltz':(i:Int) < (kN:Int):=by omega
    have q1:kN≤dk.size:=by omega
    have q2:i < kN:=by omega
    obtain⟨x,hx⟩: ∃ x,x=dk[kN]! :=⟨_,rfl⟩
    obtain⟨y,hy⟩: ∃ x,x=dk[kp]! :=⟨_,rfl⟩
    have S3:Aside (SW enc w0 blk off (swp dk kN kp) ((wr.setCell ⟨blk,off+kN,none⟩ (enc y)).setCell ⟨blk,off+kp,none⟩ (enc x)).drew):=by rw[hx,hy];exact S1.out.swapped R kN kp (by omega) (by omega)
    have ca:=S1.out.c1 R (by omega) kN (by omega)
    have cb':=S1.out.c1 R (by omega) kp (by omega)
    have fa:=S1.out.f1 R (by omega) kN (by omega)
    have fb:=S1.out.f1 R (by omega) kp (by omega)
    obtain⟨u,cc⟩:=S1.out.c2 R (by omega) kN kp (by omega) (by omega) (enc y)
    rw[←hx] at ca
    rw[←hy] at cb'
    have HX:Hid (shD (kp - i) kp (swp dk kN kp)=shD (M - i) M d):=by
     show _=_
     rw[←HO.out,show kp+1 - i=kp - i+1 by omega,shD,hkN,Nat.add_sub_cancel]
    have hz:(swp dk kN kp).size=d.size:=by rw[swp_size];exact hsk
    have q3:=Aside0.mk (And.intro hkN (And.intro hki (And.intro hg2 hak)))
    rw[ez]
    clear S1 hx hy HO hltz hlt hak hki hg2 ez;clear hkN
    go_wp2_with fail
    go_big_region_o
    clear ca cb' cc fa fb
    generalize ((wr.setCell ⟨blk,off+kN,none⟩ (enc y)).setCell ⟨blk,off+kp,none⟩ (enc x)).drew=w3 at S3⊢
    clear ec
    go_wp2
    go_roundg (kp - i)
    case measure=>have:=q3.out;omega
    case rel=>have:=q3.out;exact⟨kp,swp dk kN kp,by first|rfl|go_num|(congr 1;omega),by omega,by omega,by omega,hz,S3,HX⟩
   have hltz: ¬ (i:Int) < (k:Int):=by omega
   obtain rfl:k=i:=by omega
   go_wp2
   (try simp only[Exit.inBlock,Exit.then]);refine bodyPost_ret (results_none rfl _ _ _) rfl ?_
   exact⟨rfl,by rw[←HE.out,←HO.out,Nat.sub_self];exact S1.out⟩
end Go.Proofs.Ytefhljhpcpajgaa.F
set_option linter.unusedVariables false
namespace Go.Proofs.Ytefhljhpcpajgaa.F
open Go.Sort Go.Shelf Go.Lib
open Go.RowKit Go.Proofs.YtefhljhpcpajgaaX Go.Proofs.YtefhljhpcpajgaaW.PrintWords Go.Proofs.YtefhljhpcpajgaaW.PrintLast Go.Proofs.YtefhljhpcpajgaaW.PrintMore
open Go.Proofs.Ytefhljhpcpajgaa.Stable
theorem sym_midA {α:Type} [Inhabited α] (enc:α→Value) (cf:α→α→Int) (g:Nat) (cb:Array Value) (blk off cap a m b mid f0:Nat) (d0 d:Array α) (w0 w:World) (eg: ∀ args w,(callFunc g args).run Try.prog w= .ok (.enter g args) w) (hcmp:CmpLays1 Try.prog g cb enc cf blk off d0.size w0) (R:Row1 enc w0 blk off d0) (hs:d0.size=d.size) (S:SW enc w0 blk off d w)
  (ha1:a+1 < m) (hm:m+1 < b) (hmid:mid=(a+b) / 2) (hA:mid < m) (hb:b≤d.size) (hsz:d.size < 4611686018427387904)
  (rec: ∀ (a m b:Nat) (d:Array α) (w:World),a < m→m < b→b - a≤f0→b≤d.size→d0.size=d.size→SW enc w0 blk off d w→Calls Try.prog 156 #[.slice (some ⟨blk,off,none⟩) d.size cap,.int .i64 a,.int .i64 m,.int .i64 b,.func (.func g) #[] cb] w fun e w'=>e= .returned (.tuple #[])∧SW enc w0 blk off (sym (ltOf cf) f0 a m b d) w') (hf0:b - a≤f0+1):
  Calls Try.prog 156 #[.slice (some ⟨blk,off,none⟩) d.size cap,.int .i64 a,.int .i64 m,.int .i64 b,.func (.func g) #[] cb] w fun e w'=>e= .returned (.tuple #[])∧SW enc w0 blk off (sym (ltOf cf) (f0+1) a m b d) w':=by
 have mixed:Try.prog.follows Departure.mixedOrders=true:=by kernel_rfl
 have u22:=run_underlying Try.underlying22
 have hcl0:=R.hO.cells
 simp only[Value.cells] at hcl0
 have hst:=R.hO.store Try.prog
 have HC:Aside _:=hcmp
 have HR:Aside _:=rec
 have S0:Aside (SW enc w0 blk off d w):=S
 have hma:IntKind.i64.wrap ((m:Int) - (a:Int))=(m:Int) - (a:Int):=by rw[IntKind.wrap_i64];omega
 have hma':(((m:Int) - (a:Int)==1)=false):=by simp;omega
 have hmb:IntKind.i64.wrap ((b:Int) - (m:Int))=(b:Int) - (m:Int):=by rw[IntKind.wrap_i64];omega
 have hmb':(((b:Int) - (m:Int)==1)=false):=by simp;omega
 have emid:((a:Int)+(b:Int)) / 2=(mid:Int):=by omega
 have hA':decide ((mid:Int) < (m:Int))=true:=decide_eq_true (by omega)
 have hA2:((mid:Int) < (m:Int))=True:=eq_true (by omega)
 have hwn:IntKind.i64.wrap ((mid:Int)+(m:Int))=(mid:Int)+(m:Int):=by rw[IntKind.wrap_i64];omega
 have hwb:IntKind.i64.wrap ((mid:Int)+(m:Int) - (b:Int))=(mid:Int)+(m:Int) - (b:Int):=by rw[IntKind.wrap_i64];omega
 have hwp:IntKind.i64.wrap ((mid:Int)+(m:Int) - 1)=(mid:Int)+(m:Int) - 1:=by rw[IntKind.wrap_i64];omega
 have HE:Aside0 (sym (ltOf cf) (f0+1) a m b d=(if mid < mid+m - (bs (fun c=>!ltOf cf d[mid+m - 1 - c]! d[c]!) (mid - (mid+m - b)) (mid+m - b) mid)∧mid+m - (bs (fun c=>!ltOf cf d[mid+m - 1 - c]! d[c]!) (mid - (mid+m - b)) (mid+m - b) mid) < b then sym (ltOf cf) f0 mid (mid+m - (bs (fun c=>!ltOf cf d[mid+m - 1 - c]! d[c]!) (mid - (mid+m - b)) (mid+m - b) mid)) b (if a < (bs (fun c=>!ltOf cf d[mid+m - 1 - c]! d[c]!) (mid - (mid+m - b)) (mid+m - b) mid)∧(bs (fun c=>!ltOf cf d[mid+m - 1 - c]! d[c]!) (mid - (mid+m - b)) (mid+m - b) mid) < mid then sym (ltOf cf) f0 a (bs (fun c=>!ltOf cf d[mid+m - 1 - c]! d[c]!) (mid - (mid+m - b)) (mid+m - b) mid) mid (if(bs (fun c=>!ltOf cf d[mid+m - 1 - c]! d[c]!) (mid - (mid+m - b)) (mid+m - b) mid) < m∧m < mid+m - (bs (fun c=>!ltOf cf d[mid+m - 1 - c]! d[c]!) (mid - (mid+m - b)) (mid+m - b) mid)then rot m (m - (bs (fun c=>!ltOf cf d[mid+m - 1 - c]! d[c]!) (mid - (mid+m - b)) (mid+m - b) mid)+(mid+m - (bs (fun c=>!ltOf cf d[mid+m - 1 - c]! d[c]!) (mid - (mid+m - b)) (mid+m - b) mid) - m)) (m - (bs (fun c=>!ltOf cf d[mid+m - 1 - c]! d[c]!) (mid - (mid+m - b)) (mid+m - b) mid)) (mid+m - (bs (fun c=>!ltOf cf d[mid+m - 1 - c]! d[c]!) (mid - (mid+m - b)) (mid+m - b) mid) - m) d else d)else(if(bs (fun c=>!ltOf cf d[mid+m - 1 - c]! d[c]!) (mid - (mid+m - b)) (mid+m - b) mid) < m∧m < mid+m - (bs (fun c=>!ltOf cf d[mid+m - 1 - c]! d[c]!) (mid - (mid+m - b)) (mid+m - b) mid)then rot m (m - (bs (fun c=>!ltOf cf d[mid+m - 1 - c]! d[c]!) (mid - (mid+m - b)) (mid+m - b) mid)+(mid+m - (bs (fun c=>!ltOf cf d[mid+m - 1 - c]! d[c]!) (mid - (mid+m - b)) (mid+m - b) mid) - m)) (m - (bs (fun c=>!ltOf cf d[mid+m - 1 - c]! d[c]!) (mid - (mid+m - b)) (mid+m - b) mid)) (mid+m - (bs (fun c=>!ltOf cf d[mid+m - 1 - c]! d[c]!) (mid - (mid+m - b)) (mid+m - b) mid) - m) d else d))else(if a < (bs (fun c=>!ltOf cf d[mid+m - 1 - c]! d[c]!) (mid - (mid+m - b)) (mid+m - b) mid)∧(bs (fun c=>!ltOf cf d[mid+m - 1 - c]! d[c]!) (mid - (mid+m - b)) (mid+m - b) mid) < mid then sym (ltOf cf) f0 a (bs (fun c=>!ltOf cf d[mid+m - 1 - c]! d[c]!) (mid - (mid+m - b)) (mid+m - b) mid) mid (if(bs (fun c=>!ltOf cf d[mid+m - 1 - c]! d[c]!) (mid - (mid+m - b)) (mid+m - b) mid) < m∧m < mid+m - (bs (fun c=>!ltOf cf d[mid+m - 1 - c]! d[c]!) (mid - (mid+m - b)) (mid+m - b) mid)then rot m (m - (bs (fun c=>!ltOf cf d[mid+m - 1 - c]! d[c]!) (mid - (mid+m - b)) (mid+m - b) mid)+(mid+m - (bs (fun c=>!ltOf cf d[mid+m - 1 - c]! d[c]!) (mid - (mid+m - b)) (mid+m - b) mid) - m)) (m - (bs (fun c=>!ltOf cf d[mid+m - 1 - c]! d[c]!) (mid - (mid+m - b)) (mid+m - b) mid)) (mid+m - (bs (fun c=>!ltOf cf d[mid+m - 1 - c]! d[c]!) (mid - (mid+m - b)) (mid+m - b) mid) - m) d else d)else(if(bs (fun c=>!ltOf cf d[mid+m - 1 - c]! d[c]!) (mid - (mid+m - b)) (mid+m - b) mid) < m∧m < mid+m - (bs (fun c=>!ltOf cf d[mid+m - 1 - c]! d[c]!) (mid - (mid+m - b)) (mid+m - b) mid)then rot m (m - (bs (fun c=>!ltOf cf d[mid+m - 1 - c]! d[c]!) (mid - (mid+m - b)) (mid+m - b) mid)+(mid+m - (bs (fun c=>!ltOf cf d[mid+m - 1 - c]! d[c]!) (mid - (mid+m - b)) (mid+m - b) mid) - m)) (m - (bs (fun c=>!ltOf cf d[mid+m - 1 - c]! d[c]!) (mid - (mid+m - b)) (mid+m - b) mid)) (mid+m - (bs (fun c=>!ltOf cf d[mid+m - 1 - c]! d[c]!) (mid - (mid+m - b)) (mid+m - b) mid) - m) d else d)))):=⟨by
  rw[sym,if_neg (by omega),if_neg (by omega),←hmid]
  dsimp only
  rw[if_pos hA,if_pos hA]⟩
 have HS:Aside0 ((mid+m - b)≤bs (fun c=>!ltOf cf d[mid+m - 1 - c]! d[c]!) (mid - (mid+m - b)) (mid+m - b) mid∧bs (fun c=>!ltOf cf d[mid+m - 1 - c]! d[c]!) (mid - (mid+m - b)) (mid+m - b) mid≤mid):=⟨bs_in _ _ _ _ (by omega) (by omega)⟩
 have HM:=Aside0.mk hmid
 clear S hcmp rec hmid
 go_enter Try.func156,Try.ntmps156
 go_wp2
 go_loopg[20,21] (mid - (mid+m - b)) (fun g1 vi vj wr=> ∃ (i j f:Nat),vi= .int .i64 i∧vj= .int .i64 j∧(mid+m - b)≤i∧i≤j∧j≤mid∧j≤g1+i∧j≤f+i∧Aside (SW enc w0 blk off d wr)∧Hid (bs (fun c=>!ltOf cf d[mid+m - 1 - c]! d[c]!) f i j=bs (fun c=>!ltOf cf d[mid+m - 1 - c]! d[c]!) (mid - (mid+m - b)) (mid+m - b) mid))
 case atStart=>have:=HM.out;exact⟨(mid+m - b),mid,mid - (mid+m - b),by first|rfl|(congr 1;omega),by first|rfl|(congr 1;omega),Nat.le_refl _,by omega,Nat.le_refl _,by omega,by omega,S0,rfl⟩
 case round=>
  clear S0
  obtain⟨i,j,f,rfl,rfl,him,hij,hjb,hg1,hf,S1,HO⟩:=hrel
  by_cases hlt:i < j
  ·have hltz:(i:Int) < (j:Int):=by omega
   obtain⟨f,rfl⟩: ∃ q,f=q+1:=⟨f - 1,by omega⟩
   have hM:=HM.out
   obtain⟨h,hh⟩: ∃ q,q=(i+j) / 2:=⟨_,rfl⟩
   obtain⟨pN,hpN⟩: ∃ q,q=mid+m - 1 - h:=⟨_,rfl⟩
   have eh:((i:Int)+(j:Int)) / 2=(h:Int):=by omega
   have ba:(h:Int) < (d.size:Int):=by omega
   have rh:IntKind.i64.wrap ((h:Int)+1)=(h:Int)+1:=by rw[IntKind.wrap_i64];omega
   have esub:(mid:Int)+(m:Int) - 1 - (h:Int)=(pN:Int):=by omega
   have bc:(pN:Int) < (d.size:Int):=by omega
   have rc:IntKind.i64.wrap ((pN:Int))=(pN:Int):=by rw[IntKind.wrap_i64];omega
   obtain⟨x,hx⟩: ∃ x,x=d[pN]! :=⟨_,rfl⟩
   obtain⟨y,hy⟩: ∃ x,x=d[h]! :=⟨_,rfl⟩
   have la:=S1.out.cl R (by omega) pN (by omega)
   have lb:=S1.out.cl R (by omega) h (by omega)
   rw[←hx] at la
   rw[←hy] at lb
   have hc:=S1.out.cmp HC.out (by omega) x y
   have qf:i≤h∧h < j:=by omega
   clear hM
   cases hlv:ltOf cf d[pN]! d[h]! with
   |false=>
    have hd:decide (cf x y < 0)=false:=by rw[hx,hy];exact hlv
    have HX:Hid (bs (fun c=>!ltOf cf d[mid+m - 1 - c]! d[c]!) f (h+1) j=bs (fun c=>!ltOf cf d[mid+m - 1 - c]! d[c]!) (mid - (mid+m - b)) (mid+m - b) mid):=by
     show _=_
     rw[←HO.out,bs,if_pos hlt,if_pos (by rw[←hh,←hpN];simp[hlv]),hh]
    have HH:=Aside0.mk hh
    clear hx hy hlv hh hpN
    go_wp2_with fail
    go_quiet_grown (first|(go_at_fn g;refine Calls.grown_of (hc _ _)))
    have S2:Aside (SW enc w0 blk off d (grow (wr.drewN nq) osq)):=S1.out.grown nq osq
    clear la lb hc S1
    generalize grow (wr.drewN nq) osq=w2 at S2⊢
    clear nq osq
    go_wp2
    go_roundg (j - (h+1))
    case measure=>omega
    case rel=>have:=HM.out;exact⟨h+1,j,f,by first|rfl|(congr 1;omega),rfl,by omega,by omega,hjb,by omega,by omega,S2,HX⟩
   |true=>
    have hd:decide (cf x y < 0)=true:=by rw[hx,hy];exact hlv
    have HX:Hid (bs (fun c=>!ltOf cf d[mid+m - 1 - c]! d[c]!) f i h=bs (fun c=>!ltOf cf d[mid+m - 1 - c]! d[c]!) (mid - (mid+m - b)) (mid+m - b) mid):=by
     show _=_
     rw[←HO.out,bs,if_pos hlt,if_neg (by rw[←hh,←hpN];simp[hlv]),hh]
    have HH:=Aside0.mk hh
    clear hx hy hlv hh hpN
    go_wp2_with fail
    go_quiet_grown (first|(go_at_fn g;refine Calls.grown_of (hc _ _)))
    have S2:Aside (SW enc w0 blk off d (grow (wr.drewN nq) osq)):=S1.out.grown nq osq
    clear la lb hc S1
    generalize grow (wr.drewN nq) osq=w2 at S2⊢
    clear nq osq
    go_wp2
    go_roundg (h - i)
    case measure=>omega
    case rel=>have:=HM.out;exact⟨i,h,f,rfl,by first|rfl|(congr 1;omega),him,by omega,by omega,by omega,by omega,S2,HX⟩
  obtain rfl:i=j:=by omega
  have hsi:i=bs (fun c=>!ltOf cf d[mid+m - 1 - c]! d[c]!) (mid - (mid+m - b)) (mid+m - b) mid:=by
   rw[←HO.out]
   cases f with
   |zero=>rw[bs]
   |succ f=>rw[bs,if_neg hlt]
  have hF:=HE.out
  rw[←hsi] at hF
  have hS:=HS.out
  rw[←hsi] at hS
  have HF:=Aside0.mk hF
  clear HO hsi HE hF HS
  have hM:=HM.out
  have we:IntKind.i64.wrap ((mid:Int)+(m:Int) - (i:Int))=(mid:Int)+(m:Int) - (i:Int):=by rw[IntKind.wrap_i64];omega
  have ce:((mid+m - i:Nat):Int)=(mid:Int)+(m:Int) - (i:Int):=by omega
  have h1: ∀ (wr:World),i < m→m < mid+m - i→Aside (SW enc w0 blk off d wr)→Calls Try.prog 163 #[.slice (some ⟨blk,off,none⟩) d.size cap,.int .i64 i,.int .i64 m,.int .i64 ((mid:Int)+(m:Int) - (i:Int)),.func (.func g) #[] cb] wr fun e w'=>e= .returned (.tuple #[])∧SW enc w0 blk off (rot m (m - i+(mid+m - i - m)) (m - i) (mid+m - i - m) d) w':=fun wr q1 q2 S=>by
   have:=rotate_calls enc g cb blk off cap i m (mid+m - i) d0 d w0 wr R hs S.out q1 q2 (by omega) hsz
   rw[ce] at this
   exact this
  have H1:=Aside0.mk h1
  have h2: ∀ (dk:Array α) (wr:World),a < i→i < mid→dk.size=d.size→Aside (SW enc w0 blk off dk wr)→Calls Try.prog 156 #[.slice (some ⟨blk,off,none⟩) d.size cap,.int .i64 a,.int .i64 i,.int .i64 mid,.func (.func g) #[] cb] wr fun e w'=>e= .returned (.tuple #[])∧SW enc w0 blk off (sym (ltOf cf) f0 a i mid dk) w':=fun dk wr q1 q2 hz S=>by
   have:=HR.out a i mid dk wr q1 q2 (by omega) (by omega) (by omega) S.out
   rw[hz] at this
   exact this
  have H2:=Aside0.mk h2
  have h3: ∀ (dk:Array α) (wr:World),mid < mid+m - i→mid+m - i < b→dk.size=d.size→Aside (SW enc w0 blk off dk wr)→Calls Try.prog 156 #[.slice (some ⟨blk,off,none⟩) d.size cap,.int .i64 mid,.int .i64 ((mid:Int)+(m:Int) - (i:Int)),.int .i64 b,.func (.func g) #[] cb] wr fun e w'=>e= .returned (.tuple #[])∧SW enc w0 blk off (sym (ltOf cf) f0 mid (mid+m - i) b dk) w':=fun dk wr q1 q2 hz S=>by
   have:=HR.out mid (mid+m - i) b dk wr q1 q2 (by omega) (by omega) (by omega) S.out
   rw[hz,ce] at this
   exact this
  have H3:=Aside0.mk h3
  clear h1 h2 h3 hM HM HR ce
  have z1:(rot m (m - i+(mid+m - i - m)) (m - i) (mid+m - i - m) d).size=d.size:=rot_size _ _ _ _ _
  by_cases b1:i < mid
  ·by_cases b2:a < i
   ·by_cases b3:mid+m - i < b
    ·have D1:decide ((i:Int) < (m:Int))=true:=decide_eq_true (by omega)
     have D2:decide ((m:Int) < (mid:Int)+(m:Int) - (i:Int))=true:=decide_eq_true (by omega)
     have D3:decide ((a:Int) < (i:Int))=true:=decide_eq_true (by omega)
     have D4:decide ((i:Int) < (mid:Int))=true:=decide_eq_true (by omega)
     have D5:decide ((mid:Int) < (mid:Int)+(m:Int) - (i:Int))=true:=decide_eq_true (by omega)
     have D6:decide ((mid:Int)+(m:Int) - (i:Int) < (b:Int))=true:=decide_eq_true (by omega)
     have q1:i < m:=by omega
     have q2:m < mid+m - i:=by omega
     have q3:a < i:=by omega
     have q4:i < mid:=by omega
     have q5:mid < mid+m - i:=by omega
     have q6:mid+m - i < b:=by omega
     have E:=HF.out
     rw[if_pos (And.intro q1 q2),if_pos (And.intro q3 q4),if_pos (And.intro q5 q6)] at E
     have HG:=Aside0.mk E
     clear E HF
     have K1:=Aside0.mk (fun(wr:World) S=>H1.out wr q1 q2 S)
     have K2:=Aside0.mk (fun(wr:World) S=>H2.out (rot m (m - i+(mid+m - i - m)) (m - i) (mid+m - i - m) d) wr q3 q4 z1 S)
     have z2:(sym (ltOf cf) f0 a i mid (rot m (m - i+(mid+m - i - m)) (m - i) (mid+m - i - m) d)).size=d.size:=(sym_size _ _ _ _ _ _).trans z1
     have K3:=Aside0.mk (fun(wr:World) S=>H3.out (sym (ltOf cf) f0 a i mid (rot m (m - i+(mid+m - i - m)) (m - i) (mid+m - i - m) d)) wr q5 q6 z2 S)
     clear H1 H2 H3 z1 z2
     go_wp2_with fail
     with_reducible refine(K1.out _ S1).mono ?_
     rintro e1 w1 ⟨rfl,S2⟩
     have T1:Aside (SW enc w0 blk off (rot m (m - i+(mid+m - i - m)) (m - i) (mid+m - i - m) d) w1):=S2
     clear S2
     go_wp2_with fail
     with_reducible refine(K2.out _ T1).mono ?_
     rintro e2 w2 ⟨rfl,S2⟩
     have T2:Aside (SW enc w0 blk off (sym (ltOf cf) f0 a i mid (rot m (m - i+(mid+m - i - m)) (m - i) (mid+m - i - m) d)) w2):=S2
     clear S2
     go_wp2_with fail
     with_reducible refine(K3.out _ T2).mono ?_
     rintro e3 w3 ⟨rfl,S2⟩
     have T3:Aside (SW enc w0 blk off (sym (ltOf cf) f0 mid (mid+m - i) b (sym (ltOf cf) f0 a i mid (rot m (m - i+(mid+m - i - m)) (m - i) (mid+m - i - m) d))) w3):=S2
     clear S2
     go_wp2
     go_end0
     exact⟨rfl,by rw[HG.out];exact T3.out⟩
    have D1:decide ((i:Int) < (m:Int))=true:=decide_eq_true (by omega)
    have D2:decide ((m:Int) < (mid:Int)+(m:Int) - (i:Int))=true:=decide_eq_true (by omega)
    have D3:decide ((a:Int) < (i:Int))=true:=decide_eq_true (by omega)
    have D4:decide ((i:Int) < (mid:Int))=true:=decide_eq_true (by omega)
    have D5:decide ((mid:Int) < (mid:Int)+(m:Int) - (i:Int))=true:=decide_eq_true (by omega)
    have D6:decide ((mid:Int)+(m:Int) - (i:Int) < (b:Int))=false:=decide_eq_false (by omega)
    have q1:i < m:=by omega
    have q2:m < mid+m - i:=by omega
    have q3:a < i:=by omega
    have q4:i < mid:=by omega
    have n2: ¬ (mid < mid+m - i∧mid+m - i < b):=by omega
    have E:=HF.out
    rw[if_pos (And.intro q1 q2),if_pos (And.intro q3 q4),if_neg n2] at E
    have HG:=Aside0.mk E
    clear E HF
    have K1:=Aside0.mk (fun(wr:World) S=>H1.out wr q1 q2 S)
    have K2:=Aside0.mk (fun(wr:World) S=>H2.out (rot m (m - i+(mid+m - i - m)) (m - i) (mid+m - i - m) d) wr q3 q4 z1 S)
    have z2:(sym (ltOf cf) f0 a i mid (rot m (m - i+(mid+m - i - m)) (m - i) (mid+m - i - m) d)).size=d.size:=(sym_size _ _ _ _ _ _).trans z1
    clear H1 H2 H3 z1 z2
    go_wp2_with fail
    with_reducible refine(K1.out _ S1).mono ?_
    rintro e1 w1 ⟨rfl,S2⟩
    have T1:Aside (SW enc w0 blk off (rot m (m - i+(mid+m - i - m)) (m - i) (mid+m - i - m) d) w1):=S2
    clear S2
    go_wp2_with fail
    with_reducible refine(K2.out _ T1).mono ?_
    rintro e2 w2 ⟨rfl,S2⟩
    have T2:Aside (SW enc w0 blk off (sym (ltOf cf) f0 a i mid (rot m (m - i+(mid+m - i - m)) (m - i) (mid+m - i - m) d)) w2):=S2
    clear S2
    go_wp2
    go_end0
    exact⟨rfl,by rw[HG.out];exact T2.out⟩
   by_cases b3:mid+m - i < b
   ·have D1:decide ((i:Int) < (m:Int))=true:=decide_eq_true (by omega)
    have D2:decide ((m:Int) < (mid:Int)+(m:Int) - (i:Int))=true:=decide_eq_true (by omega)
    have D3:decide ((a:Int) < (i:Int))=false:=decide_eq_false (by omega)
    have D5:decide ((mid:Int) < (mid:Int)+(m:Int) - (i:Int))=true:=decide_eq_true (by omega)
    have D6:decide ((mid:Int)+(m:Int) - (i:Int) < (b:Int))=true:=decide_eq_true (by omega)
    have q1:i < m:=by omega
    have q2:m < mid+m - i:=by omega
    have n1: ¬ (a < i∧i < mid):=by omega
    have q5:mid < mid+m - i:=by omega
    have q6:mid+m - i < b:=by omega
    have E:=HF.out
    rw[if_pos (And.intro q1 q2),if_neg n1,if_pos (And.intro q5 q6)] at E
    have HG:=Aside0.mk E
    clear E HF
    have K1:=Aside0.mk (fun(wr:World) S=>H1.out wr q1 q2 S)
    have K3:=Aside0.mk (fun(wr:World) S=>H3.out (rot m (m - i+(mid+m - i - m)) (m - i) (mid+m - i - m) d) wr q5 q6 z1 S)
    clear H1 H2 H3 z1
    go_wp2_with fail
    with_reducible refine(K1.out _ S1).mono ?_
    rintro e1 w1 ⟨rfl,S2⟩
    have T1:Aside (SW enc w0 blk off (rot m (m - i+(mid+m - i - m)) (m - i) (mid+m - i - m) d) w1):=S2
    clear S2
    go_wp2_with fail
    with_reducible refine(K3.out _ T1).mono ?_
    rintro e3 w3 ⟨rfl,S2⟩
    have T3:Aside (SW enc w0 blk off (sym (ltOf cf) f0 mid (mid+m - i) b (rot m (m - i+(mid+m - i - m)) (m - i) (mid+m - i - m) d)) w3):=S2
    clear S2
    go_wp2
    go_end0
    exact⟨rfl,by rw[HG.out];exact T3.out⟩
   have D1:decide ((i:Int) < (m:Int))=true:=decide_eq_true (by omega)
   have D2:decide ((m:Int) < (mid:Int)+(m:Int) - (i:Int))=true:=decide_eq_true (by omega)
   have D3:decide ((a:Int) < (i:Int))=false:=decide_eq_false (by omega)
   have D5:decide ((mid:Int) < (mid:Int)+(m:Int) - (i:Int))=true:=decide_eq_true (by omega)
   have D6:decide ((mid:Int)+(m:Int) - (i:Int) < (b:Int))=false:=decide_eq_false (by omega)
   have q1:i < m:=by omega
   have q2:m < mid+m - i:=by omega
   have n1: ¬ (a < i∧i < mid):=by omega
   have n2: ¬ (mid < mid+m - i∧mid+m - i < b):=by omega
   have E:=HF.out
   rw[if_pos (And.intro q1 q2),if_neg n1,if_neg n2] at E
   have HG:=Aside0.mk E
   clear E HF
   have K1:=Aside0.mk (fun(wr:World) S=>H1.out wr q1 q2 S)
   clear H1 H2 H3 z1
   go_wp2_with fail
   with_reducible refine(K1.out _ S1).mono ?_
   rintro e1 w1 ⟨rfl,S2⟩
   have T1:Aside (SW enc w0 blk off (rot m (m - i+(mid+m - i - m)) (m - i) (mid+m - i - m) d) w1):=S2
   clear S2
   go_wp2
   go_end0
   exact⟨rfl,by rw[HG.out];exact T1.out⟩
  by_cases b2:a < i
  ·by_cases b3:mid+m - i < b
   ·have D1:decide ((i:Int) < (m:Int))=true:=decide_eq_true (by omega)
    have D2:decide ((m:Int) < (mid:Int)+(m:Int) - (i:Int))=false:=decide_eq_false (by omega)
    have D3:decide ((a:Int) < (i:Int))=true:=decide_eq_true (by omega)
    have D4:decide ((i:Int) < (mid:Int))=false:=decide_eq_false (by omega)
    have D5:decide ((mid:Int) < (mid:Int)+(m:Int) - (i:Int))=true:=decide_eq_true (by omega)
    have D6:decide ((mid:Int)+(m:Int) - (i:Int) < (b:Int))=true:=decide_eq_true (by omega)
    have nr: ¬ (i < m∧m < mid+m - i):=by omega
    have n1: ¬ (a < i∧i < mid):=by omega
    have q5:mid < mid+m - i:=by omega
    have q6:mid+m - i < b:=by omega
    have E:=HF.out
    rw[if_neg nr,if_neg n1,if_pos (And.intro q5 q6)] at E
    have HG:=Aside0.mk E
    clear E HF
    have K3:=Aside0.mk (fun(wr:World) S=>H3.out d wr q5 q6 rfl S)
    clear H1 H2 H3 z1
    go_wp2_with fail
    with_reducible refine(K3.out _ S1).mono ?_
    rintro e3 w3 ⟨rfl,S2⟩
    have T3:Aside (SW enc w0 blk off (sym (ltOf cf) f0 mid (mid+m - i) b d) w3):=S2
    clear S2
    go_wp2
    go_end0
    exact⟨rfl,by rw[HG.out];exact T3.out⟩
   exfalso;omega
  by_cases b3:mid+m - i < b
  ·exfalso;omega
  exfalso;omega
end Go.Proofs.Ytefhljhpcpajgaa.F
