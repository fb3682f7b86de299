-- by prune.py (own program),out of the print
import Derived.Test.YtefhljhpcpajgaaProg
import Derived.Below
import Derived.Deep.Draws
import Derived.Deep.AppendLies
import Derived.Maps.AppendAt
import Derived.OwnWalk
import Derived.Laws.BytesArg
import Derived.Laws.MakeOwn
import Derived.Laws.OwnMore
import Derived.Deep.OwnRows
import Derived.Tactics
import Derived.Lib.ConvBytes
import Derived.Laws.Slices
import Derived.WalkKit
import Derived.KernelRfl
import Derived.RowKit3
import Derived.Deep.LoopGhost
import Derived.Deep.QuietTactic
import Derived.BigQuiet
import Derived.WideLaws
import Derived.Deep.DeepCutAuto
import Derived.Deep.CutBlock
import Derived.Deep.RegionHeld3
import Derived.Laws.Rows
import Derived.Lib.AppendStr
import Derived.ArgAppend
import Derived.Laws.IdiomCopy
import Derived.OrdersHeld
import Derived.Laws.BitsLemmas
import Derived.RowKit
import Derived.Laws.StructEq
import Derived.Deep.RegionLawGrows
import Derived.Lib.SliceRun
import Derived.Maps.Own
import Derived.Maps.OwnOps
import Derived.Maps.Views
import Derived.StringKeys
import Derived.Carry
import Derived.Lib.OthersKept
import Derived.Lib.RuneCount
import Derived.Laws.Cover4
import Derived.Outline
import Derived.Shelf.Small.Bits
import Derived.Shelf.Utf8.RuneCount
import Derived.Shelf.Strconv.Itoa0
import Derived.Shelf.Strings.Prefix
import Derived.Shelf.Strings.RuneCount
import Derived.Shelf.Bits.Mul64
import Derived.Ground.Names2Prog
import Derived.Shelf.Slices.SearchI
import Derived.Ground.SlsfProg
import Derived.Shelf.SlSortCmp.Insertion
import Derived.Shelf.SlSortCmp.Insertion1
import Derived.Test.YtefhljhpcpajgaaZOrderMakes1
set_option maxHeartbeats 8000000
set_option maxRecDepth 100000
namespace Go.Proofs.Ytefhljhpcpajgaa.F
open Go.RowKit Go.Proofs.YtefhljhpcpajgaaX Go.Proofs.YtefhljhpcpajgaaW.PrintWords Go.Proofs.YtefhljhpcpajgaaW.PrintLast Go.Proofs.YtefhljhpcpajgaaW.PrintMore
attribute [local go_sem] max2_int min2_int max_two min_two max_three min_three max_four min_four
attribute [local go_sem high] str_geq str_leq str_gtr
set_option linter.unusedVariables false
set_option linter.unusedSimpArgs false
mutual
def aW.l0:Nat→List (S71)→Int→Option (Bool)
  |0,_,_=>none
  |k+1,x0,x3=>if x3 < (x0.length:Int)then(if 0≤x3 then(if(((rd_T71 x0 x3).f4).length:Int) > 40 then(some false)else(aW.l1 k x0 x3 0))else(none))else(some true)
def aW.l1:Nat→List (S71)→Int→Int→Option (Bool)
  |0,_,_,_=>none
  |k+1,x0,x3,x4=>if 0≤x3 then(if x3 < (x0.length:Int)then(if x4 < (((rd_T71 x0 x3).f4).length:Int)then(if 0≤x4 then(if((rdOf ByteArray.empty ((rd_T71 x0 x3).f4) x4).size:Int) > 100 then(some false)else(aW.l1 k x0 x3 (wrap64 (x4+1))))else(none))else(aW.l0 k x0 (wrap64 (x3+1))))else(none))else(none)
end
def aW.f (k:Nat) (l0:List (S71)):Option (Bool):=if(l0.length:Int) > 20 then(some false)else(aW.l0 k l0 0)
theorem aW.mono_l: ∀ k,(∀ y0 y1,LeO (aW.l0 k y0 y1) (aW.l0 (k+1) y0 y1))∧(∀ y0 y1 y2,LeO (aW.l1 k y0 y1 y2) (aW.l1 (k+1) y0 y1 y2))
  |0=> ⟨fun _ _ r h=>by simp[aW.l0] at h,fun _ _ _ r h=>by simp[aW.l1] at h⟩
  |k+1=>by
    obtain⟨ih0,ih1⟩:=aW.mono_l k
    refine⟨?_,?_⟩
    · intro y0 y1
      unfold aW.l0
      repeat' (with_reducible first|exact ih0 _ _|exact ih1 _ _ _|exact LeO.refl _|exact LeO.none _|refine LeO.ite ?_ ?_|refine LeO.bind ?_ (fun _=>?_))
    intro y0 y1 y2
    unfold aW.l1
    repeat' (with_reducible first|exact ih0 _ _|exact ih1 _ _ _|exact LeO.refl _|exact LeO.none _|refine LeO.ite ?_ ?_|refine LeO.bind ?_ (fun _=>?_))
theorem aW.mono: ∀ a0 k,LeO (aW.f k a0) (aW.f (k+1) a0):=by
  intro a0 k
  obtain⟨ih0,ih1⟩:=aW.mono_l k
  unfold aW.f
  repeat' (with_reducible first|exact ih0 _ _|exact ih1 _ _ _|exact LeO.refl _|exact LeO.none _|refine LeO.ite ?_ ?_|refine LeO.bind ?_ (fun _=>?_))
theorem aW.calls (k:Nat) (A0:Option Addr) (c0:Nat) (l0:List (S71)) (r:Bool) (w:World) (hr0:Kd.C k71 w A0 l0.length l0) (hc0:l0.length≤c0) (h:aW.f k l0=some r):
  Calls Try.prog 60 #[.slice A0 l0.length c0] w fun e w'=>e= .returned (.bool r)∧Drawn0 w w':=by
 have HR0:=zA hr0
 have HC0:=zA hc0
 clear hr0 hc0
 have H:(if(l0.length:Int) > 20 then(some false)else(aW.l0 k l0 0))=some r:=h
 clear h
 by_cases c2:(l0.length:Int) > 20
 ·rw[if_pos c2] at H
  have c2b0:decide (20 < (l0.length:Int))=true:=zFq c2;have c2b1:decide (20 < l0.length)=true:=zFq (by omega);clear c2;obtain rfl:=zKq H;go_enter Try.func60,Try.ntmps60;go_wp2;go_ret;exact⟨by first|rfl|(simp;done)|(simp[*];done),by repeat(first|exact Drawn0.refl _|apply Drawn0.step)⟩
 rw[if_neg c2] at H
 have c2b0:decide (20 < (l0.length:Int))=false:=zGq c2
 have c2b1:decide (20 < l0.length)=false:=zGq (by omega)
 clear c2
 have H':=zA H
 clear H
 go_enter Try.func60,Try.ntmps60
 go_wp2
 go_loopg[3] k (fun kq v3 w'=> ∃ (x3_1:Int),v3= .int .i64 x3_1∧Aside0 (aW.l0 kq l0 x3_1=some r)∧Aside0 (kq≤k)∧Drawn0 w w')
 case atStart=>exact⟨(0),qF_,H',⟨Nat.le_refl _⟩,by repeat(first|exact Drawn0.refl _|apply Drawn0.step)⟩
 case round=>
  clear H';try clear c2
  try clear c2b0
  try clear c2b1
  try clear p2
  obtain⟨x3_1,rfl,HA,HK1,⟨m1,rfl⟩⟩:=hrel;cases gk with
  |zero=>exact absurd HA.out (by simp[aW.l0])
  |succ k1=>
   have H:=HA.out;clear HA;simp only[aW.l0] at H;by_cases c3:x3_1 < (l0.length:Int)
   ·rw[if_pos c3] at H
    have c3b0:=zFq c3;clear c3;by_cases c4:0≤x3_1
    ·rw[if_pos c4] at H
     have c4b0:=zFq c4;clear c4;by_cases c5:(((rd_T71 l0 x3_1).f4).length:Int) > 40
     ·rw[if_pos c5] at H
      have c5b0:decide (40 < (((rd_T71 l0 x3_1).f4).length:Int))=true:=zFq c5;have c5b1:decide (40 < ((rd_T71 l0 x3_1).f4).length)=true:=zFq (by omega);clear c5;obtain rfl:=zKq H;have p101:0≤(x3_1:Int):=qO_;have q101:x3_1 < (l0.length:Int):=qO_;obtain⟨ad101,A101_4,c101_4,e101,hx101_0,hx101_1,hx101_2,hx101_3,hx101_4,hl101_4,hi101_4⟩:=at_T71 HR0.out x3_1 p101 q101;cases e101
      have HR101_4:=zA hi101_4;have HC101_4:=zA hl101_4;clear hi101_4 hl101_4;replace p101:=eq_true p101;replace q101:=eq_true q101;go_wp2;go_ret;exact⟨by first|rfl|(simp;done)|(simp[*];done),by repeat(first|exact Drawn0.refl _|apply Drawn0.step)⟩
     rw[if_neg c5] at H;have c5b0:decide (40 < (((rd_T71 l0 x3_1).f4).length:Int))=false:=zGq c5;have c5b1:decide (40 < ((rd_T71 l0 x3_1).f4).length)=false:=zGq (by omega);clear c5;have H':=zA H;clear H;have p101:0≤(x3_1:Int):=qO_;have q101:x3_1 < (l0.length:Int):=qO_;obtain⟨ad101,A101_4,c101_4,e101,hx101_0,hx101_1,hx101_2,hx101_3,hx101_4,hl101_4,hi101_4⟩:=at_T71 HR0.out x3_1 p101 q101;cases e101
     have HR101_4:=zA hi101_4;have HC101_4:=zA hl101_4;clear hi101_4 hl101_4;replace p101:=eq_true p101;replace q101:=eq_true q101;go_wp2;go_loopg[4] k1 (fun kq v4 w'=> ∃ (x4_2:Int),v4= .int .i64 x4_2∧Aside0 (aW.l1 kq l0 x3_1 x4_2=some r)∧Aside0 (kq≤k1)∧Drawn0 w w')
     case atStart=>exact⟨(0),qF_,H',⟨Nat.le_refl _⟩,by repeat(first|exact Drawn0.refl _|apply Drawn0.step)⟩
     case round=>
      clear H';try clear c1
      try clear p1
      try clear q1
      try clear hx1
      try clear c2
      try clear c2b0
      try clear c2b1
      try clear p2
      try clear c3
      try clear c3b0
      try clear c4
      try clear c4b0
      try clear c5
      try clear c5b0
      try clear c5b1
      try clear hx101_0
      try clear hx101_1
      try clear hx101_2
      try clear hx101_3
      try clear hx101_4
      try clear p101
      try clear p2
      try clear q101
      obtain⟨x4_2,rfl,HA,HK2,⟨m2,rfl⟩⟩:=hrel;cases gk with
      |zero=>exact absurd HA.out (by simp[aW.l1])
      |succ k2=>
       have H:=HA.out;clear HA;simp only[aW.l1] at H;by_cases c6:0≤x3_1
       ·rw[if_pos c6] at H
        have c6b0:=zFq c6;clear c6;by_cases c7:x3_1 < (l0.length:Int)
        ·rw[if_pos c7] at H
         have c7b0:=zFq c7;clear c7;by_cases c8:x4_2 < (((rd_T71 l0 x3_1).f4).length:Int)
         ·rw[if_pos c8] at H
          have c8b0:=zFq c8;clear c8;by_cases c9:0≤x4_2
          ·rw[if_pos c9] at H
           have c9b0:=zFq c9;clear c9;by_cases c10:((rdOf ByteArray.empty ((rd_T71 l0 x3_1).f4) x4_2).size:Int) > 100
           ·rw[if_pos c10] at H
            have c10b0:decide (100 < ((rdOf ByteArray.empty ((rd_T71 l0 x3_1).f4) x4_2).size:Int))=true:=zFq c10;have c10b1:decide (100 < (rdOf ByteArray.empty ((rd_T71 l0 x3_1).f4) x4_2).size)=true:=zFq (by omega);clear c10;obtain rfl:=zKq H;have p102:0≤(x3_1:Int):=qO_;have q102:x3_1 < (l0.length:Int):=qO_;obtain⟨ad102,A102_4,c102_4,e102,hx102_0,hx102_1,hx102_2,hx102_3,hx102_4,hl102_4,hi102_4⟩:=at_T71 HR0.out x3_1 p102 q102;obtain rfl:ad101=ad102:=(by injection e102)
            have HR102_4:=zA hi102_4;have HC102_4:=zA hl102_4;clear hi102_4 hl102_4;replace p102:=eq_true p102;replace q102:=eq_true q102;have p103:0≤(x3_1:Int):=qO_;have q103:x3_1 < (l0.length:Int):=qO_;obtain⟨ad103,A103_4,c103_4,e103,hx103_0,hx103_1,hx103_2,hx103_3,hx103_4,hl103_4,hi103_4⟩:=at_T71 HR0.out x3_1 p103 q103;obtain rfl:ad101=ad103:=(by injection e103)
            have HR103_4:=zA hi103_4;have HC103_4:=zA hl103_4;clear hi103_4 hl103_4;replace p103:=eq_true p103;replace q103:=eq_true q103;have ea_:=zKq (hx102_4.symm.trans hx103_4);injection ea_ with ea_ en_ ec_
            subst ea_;subst ec_;clear en_;have p104:0≤(x4_2:Int):=qO_;have q104:x4_2 < (((rd_T71 l0 x3_1).f4).length:Int):=qO_;obtain⟨ad104,e104,hx104_0⟩:=Kd.at_string HR103_4.out x4_2 p104 q104;cases e104
            replace p104:=eq_true p104;replace q104:=eq_true q104;go_wp2;go_ret;exact⟨by first|rfl|(simp;done)|(simp[*];done),by repeat(first|exact Drawn0.refl _|apply Drawn0.step)⟩
           rw[if_neg c10] at H;have c10b0:decide (100 < ((rdOf ByteArray.empty ((rd_T71 l0 x3_1).f4) x4_2).size:Int))=false:=zGq c10;have c10b1:decide (100 < (rdOf ByteArray.empty ((rd_T71 l0 x3_1).f4) x4_2).size)=false:=zGq (by omega);clear c10;have H':=zA H;clear H;have p102:0≤(x3_1:Int):=qO_;have q102:x3_1 < (l0.length:Int):=qO_;obtain⟨ad102,A102_4,c102_4,e102,hx102_0,hx102_1,hx102_2,hx102_3,hx102_4,hl102_4,hi102_4⟩:=at_T71 HR0.out x3_1 p102 q102;obtain rfl:ad101=ad102:=(by injection e102)
           have HR102_4:=zA hi102_4;have HC102_4:=zA hl102_4;clear hi102_4 hl102_4;replace p102:=eq_true p102;replace q102:=eq_true q102;have p103:0≤(x3_1:Int):=qO_;have q103:x3_1 < (l0.length:Int):=qO_;obtain⟨ad103,A103_4,c103_4,e103,hx103_0,hx103_1,hx103_2,hx103_3,hx103_4,hl103_4,hi103_4⟩:=at_T71 HR0.out x3_1 p103 q103;obtain rfl:ad101=ad103:=(by injection e103)
           have HR103_4:=zA hi103_4;have HC103_4:=zA hl103_4;clear hi103_4 hl103_4;replace p103:=eq_true p103;replace q103:=eq_true q103;have ea_:=zKq (hx102_4.symm.trans hx103_4);injection ea_ with ea_ en_ ec_
           subst ea_;subst ec_;clear en_;have p104:0≤(x4_2:Int):=qO_;have q104:x4_2 < (((rd_T71 l0 x3_1).f4).length:Int):=qO_;obtain⟨ad104,e104,hx104_0⟩:=Kd.at_string HR103_4.out x4_2 p104 q104;cases e104
           replace p104:=eq_true p104;replace q104:=eq_true q104;go_wp2;go_roundg k2
           case measure=>have:=HK1.out;have:=HK2.out;omega
           case rel=>exact⟨(wrap64 (x4_2+1)),qF_,H',⟨by have:=HK1.out;have:=HK2.out;omega⟩,by repeat(first|exact Drawn0.refl _|apply Drawn0.step)⟩
          rw[if_neg c9] at H;exact absurd H (by simp)
         rw[if_neg c8] at H;have c8b0:=zGq c8;clear c8;have H':=zA H;clear H;have p102:0≤(x3_1:Int):=qO_;have q102:x3_1 < (l0.length:Int):=qO_;obtain⟨ad102,A102_4,c102_4,e102,hx102_0,hx102_1,hx102_2,hx102_3,hx102_4,hl102_4,hi102_4⟩:=at_T71 HR0.out x3_1 p102 q102;obtain rfl:ad101=ad102:=(by injection e102)
         have HR102_4:=zA hi102_4;have HC102_4:=zA hl102_4;clear hi102_4 hl102_4;replace p102:=eq_true p102;replace q102:=eq_true q102;go_wp2;go_roundg k2
         case measure=>have:=HK1.out;have:=HK2.out;omega
         case rel=>exact⟨(wrap64 (x3_1+1)),qF_,H',⟨by have:=HK1.out;have:=HK2.out;omega⟩,by repeat(first|exact Drawn0.refl _|apply Drawn0.step)⟩
        rw[if_neg c7] at H;exact absurd H (by simp)
       rw[if_neg c6] at H;exact absurd H (by simp)
    rw[if_neg c4] at H;exact absurd H (by simp)
   rw[if_neg c3] at H;have c3b0:=zGq c3;clear c3;obtain rfl:=zKq H;go_wp2;go_ret;exact⟨by first|rfl|(simp;done)|(simp[*];done),by repeat(first|exact Drawn0.refl _|apply Drawn0.step)⟩
def cO.f (a0:ByteArray):Option ((List (S71))):=some (([(⟨1,100,0,0,(([(⟨#[65]⟩:ByteArray)] :List ByteArray))⟩:S71),(⟨2,200,0,0,(([a0,(⟨#[67]⟩:ByteArray)] :List ByteArray))⟩:S71)] :List (S71)))
theorem cO.calls (a0:ByteArray) (r:List (S71)) (w:World) (h:cO.f a0=some r):
  Calls Try.prog 124 #[.string a0] w fun e w'=> ∃ v0_:Value,e= .returned (v0_)∧Kd.N k71 71 w' w.heap.size (fun k_=> (w.heap.size≤k_)) v0_ r∧Below w.heap.size w w':=by
 have hu71:=Try.underlying71
 have HB:=zA (Below.refl w.heap.size w)
 have H:(some (([(⟨1,100,0,0,(([(⟨#[65]⟩:ByteArray)] :List ByteArray))⟩:S71),(⟨2,200,0,0,(([a0,(⟨#[67]⟩:ByteArray)] :List ByteArray))⟩:S71)] :List (S71))))=some r:=h
 clear h
 obtain⟨y101,hy101⟩: ∃ y_:List ByteArray,y_=(([(⟨#[65]⟩:ByteArray)] :List ByteArray)):=⟨_,rfl⟩
 replace H:(some (([(⟨1,100,0,0,y101⟩:S71),(⟨2,200,0,0,(([a0,(⟨#[67]⟩:ByteArray)] :List ByteArray))⟩:S71)] :List (S71))))=some r:=by first|(rw[hy101];with_reducible exact H)|(have H2_:=(Option.bind_some _ _).symm.trans H;rw[hy101];with_reducible exact H2_)|(have H2_:=(Option.bind_some _ _).symm.trans H;with_reducible exact H2_)|with_reducible exact H|(rw[hy101];exact H)|exact H
 have Ny101:=zA hy101
 clear hy101
 obtain⟨y104,hy104⟩: ∃ y_:List ByteArray,y_=(([a0,(⟨#[67]⟩:ByteArray)] :List ByteArray)):=⟨_,rfl⟩
 replace H:(some (([(⟨1,100,0,0,y101⟩:S71),(⟨2,200,0,0,y104⟩:S71)] :List (S71))))=some r:=by first|(rw[hy104];with_reducible exact H)|(have H2_:=(Option.bind_some _ _).symm.trans H;rw[hy104];with_reducible exact H2_)|(have H2_:=(Option.bind_some _ _).symm.trans H;with_reducible exact H2_)|with_reducible exact H|(rw[hy104];exact H)|exact H
 have Ny104:=zA hy104
 clear hy104
 obtain⟨y107,hy107⟩: ∃ y_:List (S71),y_=(([(⟨1,100,0,0,y101⟩:S71),(⟨2,200,0,0,y104⟩:S71)] :List (S71))):=⟨_,rfl⟩
 replace H:(some y107)=some r:=by first|(rw[hy107];with_reducible exact H)|(have H2_:=(Option.bind_some _ _).symm.trans H;rw[hy107];with_reducible exact H2_)|(have H2_:=(Option.bind_some _ _).symm.trans H;with_reducible exact H2_)|with_reducible exact H|(rw[hy107];exact H)|exact H
 have Ny107:=zA hy107
 clear hy107
 obtain rfl:=zKq H
 go_enter Try.func124,Try.ntmps124
 go_wp2_with (first|((with_reducible refine gate_dst (N:=3) rfl ?_);refine Kd.R_lit Kd.string _ 9 ?hg (N:=3) ?hd (xs:=([(⟨#[65]⟩:ByteArray)] :List ByteArray)) (inner:=[.string (⟨#[65]⟩:ByteArray)]) (ok:=fun _=>True) (okp:=fun _=>True) ?hr ?hp (fun _ hk=>hk) trivial (Below.refl _ _) (Nat.le_refl _) (by simp) ?_;(case hd=>rfl);(case hg=>rfl);(case hr=>first|(go_simp;done)|(go_simp;rfl));(case hp=>exact(Reps.one (show Kd.M Kd.string _ _ _ (⟨#[65]⟩:ByteArray) [.string (⟨#[65]⟩:ByteArray)] from rfl) (Reps.none _ _)));intro v102 w2 ho3 hb hg_ hnew_;clear hg_ hnew_;(first|rw[←Ny101.out] at ho3|(simp only[Int.reduceToNat] at ho3;rw[←Ny101.out] at ho3));have HO103:=zA (Kd.R_lower (Kd.R_newM (M:=fun k_=> (w.heap.size≤k_)) ho3 (zW qB) (fun k_ h_=>h_)) (zW qB));replace HB:=zA (zV qB hb);clear hb ho3;obtain⟨Ao4,co4,eo4⟩:=Kd.R_slice HO103.out;subst eo4)|((with_reducible refine gate_dst (N:=6) rfl ?_);refine Kd.R_lit Kd.string _ 9 ?hg (N:=6) ?hd (xs:=([a0,(⟨#[67]⟩:ByteArray)] :List ByteArray)) (inner:=[.string a0,.string (⟨#[67]⟩:ByteArray)]) (ok:=fun _=>True) (okp:=fun _=>True) ?hr ?hp (fun _ hk=>hk) trivial (Below.refl _ _) (Nat.le_refl _) (by simp) ?_;(case hd=>rfl);(case hg=>rfl);(case hr=>first|(go_simp;done)|(go_simp;rfl));(case hp=>exact(Reps.one (show Kd.M Kd.string _ _ _ a0 [.string a0] from rfl) (Reps.one (show Kd.M Kd.string _ _ _ (⟨#[67]⟩:ByteArray) [.string (⟨#[67]⟩:ByteArray)] from rfl) (Reps.none _ _))));intro v105 w5 ho6 hb hg_ hnew_;clear hg_ hnew_;(first|rw[←Ny104.out] at ho6|(simp only[Int.reduceToNat] at ho6;rw[←Ny104.out] at ho6));have HO106:=zA (Kd.R_lower (Kd.R_new' (Kd.R_newM (M:=fun k_=> (w.heap.size≤k_)) ho6 (zW qB) (fun k_ h_=>h_)) (Kd.R_lt (qR_ HO103.out))) (zW qB));replace HO103:=zA (Kd.R_elder' (qR_ HO103.out) (Kd.R_base ho6) hb);replace HB:=zA (zV qB hb);clear hb ho6;obtain⟨Ao7,co7,eo7⟩:=Kd.R_slice HO106.out;subst eo7)|((with_reducible refine gate_dst (N:=8) rfl ?_);refine Kd.N_lit k71 _ 71 ?hg (N':=8) ?hd (xs:=([(⟨1,100,0,0,y101⟩:S71),(⟨2,200,0,0,y104⟩:S71)] :List (S71))) (inner:=[.int .i64 1,.int .i64 100,.int .i64 0,.int .i64 0,.slice Ao4 y101.length co4,.int .i64 2,.int .i64 200,.int .i64 0,.int .i64 0,.slice Ao7 y104.length co7]) (ok:=(fun k_=> (w.heap.size≤k_))) (okp:=(fun k_=> (w.heap.size≤k_))) ?hr ?hp (fun _ hk=>hk) ((show ∀ k_,w5.heap.size≤k_→(fun k_=> (w.heap.size≤k_)) k_ from fun k_ hk=> (Nat.le_trans (zW qB) hk)) _ (Nat.le_refl _)) (Below.refl _ _) (Nat.le_refl _) (by simp) ?_;(case hd=>rfl);(case hg=>rfl);(case hr=>first|(go_simp;done)|(go_simp;rfl));(case hp=>exact(Reps.c5 (show Kd.FK k71 _ _ (⟨1,100,0,0,y101⟩:S71) [.int .i64 1,.int .i64 100,.int .i64 0,.int .i64 0,.slice Ao4 y101.length co4] from(k71_mkF _ _ (⟨1,100,0,0,y101⟩:S71) (Kd.R_reads' (Kd.R_mono (ok':=(fun k_=> (w.heap.size≤k_))) (HO103.out) (fun k_ hk=>hk.1.1))).2.1 (Kd.R_F (Kd.R_mono (ok':=(fun k_=> (w.heap.size≤k_))) (HO103.out) (fun k_ hk=>hk.1.1))))) (Reps.c5 (show Kd.FK k71 _ _ (⟨2,200,0,0,y104⟩:S71) [.int .i64 2,.int .i64 200,.int .i64 0,.int .i64 0,.slice Ao7 y104.length co7] from(k71_mkF _ _ (⟨2,200,0,0,y104⟩:S71) (Kd.R_reads' (Kd.R_mono (ok':=(fun k_=> (w.heap.size≤k_))) (HO106.out) (fun k_ hk=>hk.1.1))).2.1 (Kd.R_F (Kd.R_mono (ok':=(fun k_=> (w.heap.size≤k_))) (HO106.out) (fun k_ hk=>hk.1.1))))) (Reps.none _ _))));intro v108 w8 ho9 hb hg_ hnew_;clear hg_ hnew_;(first|rw[←Ny107.out] at ho9|(simp only[Int.reduceToNat] at ho9;rw[←Ny107.out] at ho9));have HO109:=zA (Kd.N_lower ho9 (zW qB));replace HB:=zA (zV qB hb);clear HO103 HO106 hb ho9))
 go_ret
 exact⟨_,qE,qN_ HO109.out,qB⟩
def cY.f (a0_0:Int) (a0_1:Int) (a1:Int):Option (Bool):=if a1≥a0_0 then(some (decide (a1≤a0_1)))else(some false)
theorem cY.calls (a0_0:Int) (a0_1:Int) (a1:Int) (r:Bool) (w:World) (h:cY.f a0_0 a0_1 a1=some r):
  Calls Try.prog 144 #[.agg #[.int .i64 a0_0,.int .i64 a0_1],.int .i64 a1] w fun e w'=>e= .returned (.bool r)∧Below w.heap.size w w':=by
 have hu160:=Try.underlying160
 have HB:=zA (Below.refl w.heap.size w)
 have H:(if a1≥a0_0 then(some (decide (a1≤a0_1)))else(some false))=some r:=h
 clear h
 by_cases c3:a1≥a0_0
 ·rw[if_pos c3] at H
  have c3b0:decide (a0_0≤a1)=true:=zFq c3;clear c3;obtain rfl:=zKq H;go_enter Try.func144,Try.ntmps144;go_wp2_with (first|((with_reducible refine gate_dst (N:=2) rfl ?_);refine box_event qr (N:=2) qr (cs:= #[.int .i64 a0_0,.int .i64 a0_1]) (t:=160) qg ?_;intro gb101 hg w4 hbox hb;have BK101:=zA (hbox);have GW101:=zA ((qS:w.heap.size≤gb101));have GE101:=zA ((qS:w.heap.size≤gb101));replace HB:=zA (zV qB hb);clear hb hbox hg;obtain⟨_,_,_,_⟩:=qc2f BK101.out));go_ret;exact⟨qE,qB⟩
 rw[if_neg c3] at H
 have c3b0:decide (a0_0≤a1)=false:=zGq c3
 clear c3
 obtain rfl:=zKq H
 go_enter Try.func144,Try.ntmps144
 go_wp2_with (first|((with_reducible refine gate_dst (N:=2) rfl ?_);refine box_event qr (N:=2) qr (cs:= #[.int .i64 a0_0,.int .i64 a0_1]) (t:=160) qg ?_;intro gb101 hg w6 hbox hb;have BK101:=zA (hbox);have GW101:=zA ((qS:w.heap.size≤gb101));have GE101:=zA ((qS:w.heap.size≤gb101));replace HB:=zA (zV qB hb);clear hb hbox hg;obtain⟨_,_,_,_⟩:=qc2f BK101.out))
 go_ret
 exact⟨qE,qB⟩
def cQ.f (a0:Int):Option (Bool):=(cY.f 0 1000000 a0).bind fun t101=> (some t101)
theorem cQ.calls (a0:Int) (r:Bool) (w:World) (h:cQ.f a0=some r):
  Calls Try.prog 125 #[.int .i64 a0] w fun e w'=>e= .returned (.bool r)∧Below w.heap.size w w':=by
 have hu160:=Try.underlying160
 have HB:=zA (Below.refl w.heap.size w)
 have H:((cY.f 0 1000000 a0).bind fun t101=> (some t101))=some r:=h
 clear h
 obtain⟨t101,A2,H⟩:=qD_ H
 (try dsimp only at H)
 obtain rfl:=zKq H
 go_enter Try.func125,Try.ntmps125
 go_wp2_with (first|((with_reducible refine zJq (f:=144) rfl ?_);refine goesL_ (some 5) rfl rfl Try.func144 (by kernel_rfl) rfl #[.agg #[.int .i64 0,.int .i64 1000000],.int .i64 a0] rfl qG ?_;(with_reducible refine(cY.calls 0 1000000 a0 t101 _ A2.out).mono ?_);rintro e w3 ⟨rfl,hb⟩;refine⟨_,rfl,?_⟩;replace HB:=zA (zV qB hb);(try clear hb)))
 go_ret
 exact⟨qE,qB⟩
end Go.Proofs.Ytefhljhpcpajgaa.F
set_option linter.unusedVariables false
namespace Go.Proofs.YtefhljhpcpajgaaX
open Go.RowKit Go.WideMaps
def memB (S:List ByteArray) (s:ByteArray):Bool:=S.any fun x=>decide (x=s)
theorem memB_iff {S:List ByteArray} {s:ByteArray} :memB S s=true↔s ∈ S:=by
  unfold memB
  rw[List.any_eq_true]
  exact⟨fun⟨x,h,e⟩=> (of_decide_eq_true e) ▸ h,fun h=> ⟨s,h,decide_eq_true rfl⟩⟩
def Seen (P:Program) (k e:TypeId) (w:World) (b:Nat) (S:List ByteArray):Prop:=
  ∃ (n:Nat) (D:DataW Unit),w.ownsMap P k (plainElem P e) b n D∧n≤S.length∧Maps.IsMap D∧∀ s:ByteArray,s.size≤maxLen→D.atKey (.string s.data.toList) (.lit (.bool false))= .lit (.bool (memB S s))
theorem plain_bool_inv {H:Type} {P:Program} {e:TypeId} (he:P.underlying e=some .bool) {v:Value} {z:DataW H × List MemPlace} (h:plainElem P e v=some z): ∃ a,v= .bool a∧z=(.lit (.bool a),[]):=by
  unfold plainElem at h
  rw[he] at h
  cases v <;> simp at h
  exact⟨_,rfl,h.symm⟩
section
variable {P:Program} {k e t:TypeId} {w w':World} {b:Nat} {S:List ByteArray}
theorem Seen.made (w:World) (P:Program) (k e:TypeId):Seen P k e (w.alloc (.map #[] 0)) w.heap.size [] :=
  ⟨0,.map [],World.ownsMap_made _ _ _ _,Nat.le_refl _,Maps.isMap_empty,fun s _=>rfl⟩
theorem Seen.grown (h:Seen P k e w b S) {row:Option Nat} (hg:w.grownBy w' row) (hne:some b≠row):Seen P k e w' b S:=by
  obtain⟨n,D,h1,h2,h3,h4⟩:=h
  exact⟨n,D,h1.kept hg hne,h2,h3,h4⟩
theorem Seen.below (h:Seen P k e w b S) (hb:Below w.heap.size w w'):Seen P k e w' b S:=
  h.grown (row:=none) ⟨hb.os,hb.tape,hb.output,hb.size,fun k hk _=>hb.block k hk⟩ (by simp)
theorem Seen.set (h:Seen P k e w b S) {p:Addr} (hne:b≠p.block) (u:Value):Seen P k e (w.setCell p u) b S:=
  h.grown (row:=some p.block) ⟨rfl,rfl,rfl,by simp,fun k _ hk=>Below.heap_setCell w p u k (fun e=>hk (by rw[e]))⟩ (fun e=>hne (by injection e))
theorem Seen.lt (h:Seen P k e w b S):b < w.heap.size:=by obtain⟨n,D,h1,_⟩:=h;exact h1.lt
theorem Seen.look (h:Seen P k e w b S) (hk:P.underlying k=some .string) (ht:P.underlying t=some (.map k e)) (he:P.underlying e=some .bool) (hz:(zeroValue e).run P w= .ok (.bool false) w) {s:ByteArray} (hs:s.size≤maxLen):
    (Instr.lookup t (.map (some b)) (.string s) false).run P w= .ok (.bool (memB S s)) w:=by
  obtain⟨n,D,h1,h2,h3,h4⟩:=h
  obtain⟨v,ps,hrun,hv⟩:=h1.lookup (Maps.string_keyed hk) ht hz (plainElem_bool he false) (keyOf_string_mk hk hs)
  obtain⟨c,rfl,hc⟩:=plain_bool_inv he hv
  simp only[Prod.mk.injEq] at hc
  rw[h4 s hs] at hc
  obtain⟨hc,_⟩:=hc
  injection hc with hc
  injection hc with hc
  rw[hrun,hc]
theorem Seen.put (h:Seen P k e w b S) (hk:P.underlying k=some .string) (ht:P.underlying t=some (.map k e)) (he:P.underlying e=some .bool) (hn:S.length < maxLen) {s:ByteArray} (hs:s.size≤maxLen):
    ∃ w',(Instr.mapUpdate t (.map (some b)) (.string s) (.bool true)).run P w= .ok () w'∧Seen P k e w' b (S++ [s])∧w.grownBy w' (some b):=by
  obtain⟨n,D,h1,h2,h3,h4⟩:=h
  obtain⟨w',hrun,r1,r2⟩:=h1.update (Maps.string_keyed hk) ht (Nat.lt_of_le_of_lt h2 hn) (keyOf_string_mk hk hs) (plainElem_bool he true)
  refine⟨w',hrun,⟨n+1,_,r1,by rw[List.length_append];simp;omega,?_,fun s' hs'=>?_⟩,r2⟩
  · obtain⟨es,rfl⟩:=h3
    exact⟨_,rfl⟩
  by_cases e:s'=s
  · subst e
    rw[Maps.atKey_put_same h3 (by trivial)]
    have h1:memB (S++ [s']) s'=true:=memB_iff.2 (by simp)
    rw[h1]
  rw[Maps.atKey_put_other (by intro h;injection h with h;exact e (by cases s';cases s;congr 1;exact Array.toList_inj.1 h)),h4 s' hs']
  have h1:memB (S++ [s]) s'=memB S s':=by
    rw[Bool.eq_iff_iff,memB_iff,memB_iff,List.mem_append,List.mem_singleton]
    exact⟨fun h=>h.resolve_right e,.inl⟩
  rw[h1]
end
theorem wpList_look_seen {P:Program} (w:World) {ops:Array Oper} {rest:List Oper} {o:Oper} {a:Act} {Q:Exit→Act→World→Prop}
    (hg:o.guard=none) (m x:Operand) (t k e:TypeId) (hop:o.op=Op.lookup t m x false) (hk:P.underlying k=some .string) (ht:P.underlying t=some (.map k e)) (he:P.underlying e=some .bool) (hz:(zeroValue e).run P w= .ok (.bool false) w)
    (b:Nat) (S:List ByteArray) (s:ByteArray) (hm:a.eval m= .map (some b)) (hS:Seen P k e w b S) (hx:a.eval x= .string s) (hs:s.size≤maxLen)
    (hK:wpList P ops Q rest (a.put o.dst (.bool (memB S s))) w):wpList P ops Q (o::rest) a w:=by
  refine wpList_plain hg fun K' hK'=>?_
  have hrun:=hS.look hk ht he hz hs
  unfold Oper.wp
  simp only[execOp,hop,hm,hx,Sem.run_bind,hrun,Result.andThen_ok]
  exact hK' _ _ hK
theorem wpList_put_seen {P:Program} (w:World) {ops:Array Oper} {rest:List Oper} {o:Oper} {a:Act} {Q:Exit→Act→World→Prop}
    (hg:o.guard=none) (m x v:Operand) (t k e:TypeId) (hop:o.op=Op.mapUpdate t m x v) (hk:P.underlying k=some .string) (ht:P.underlying t=some (.map k e)) (he:P.underlying e=some .bool)
    (b:Nat) (S:List ByteArray) (s:ByteArray) (hm:a.eval m= .map (some b)) (hS:Seen P k e w b S) (hx:a.eval x= .string s) (hv:a.eval v= .bool true) (hs:s.size≤maxLen) (hn:S.length < maxLen)
    (hK: ∀ w',Seen P k e w' b (S++ [s])→w.grownBy w' (some b)→wpList P ops Q rest (a.put o.dst undef) w'):wpList P ops Q (o::rest) a w:=by
  refine wpList_plain hg fun K' hK'=>?_
  obtain⟨w',hrun,r1,r2⟩:=hS.put hk ht he hn hs
  unfold Oper.wp
  simp[execOp,hop,hm,hx,hv,hrun,Result.andThen]
  exact hK' _ _ (hK w' r1 r2)
def dupB:List ByteArray→List ByteArray→Bool
  |_,[] =>false
  |S,s::r=>memB S s||dupB (S++ [s]) r
end Go.Proofs.YtefhljhpcpajgaaX
namespace Go.Proofs.Ytefhljhpcpajgaa.F
open Go.RowKit Go.Proofs.YtefhljhpcpajgaaX Go.Proofs.YtefhljhpcpajgaaW.PrintWords Go.Proofs.YtefhljhpcpajgaaW.PrintLast Go.Proofs.YtefhljhpcpajgaaW.PrintMore
attribute [local go_sem] max2_int min2_int max_two min_two max_three min_three max_four min_four
attribute [local go_sem high] str_geq str_leq str_gtr
set_option linter.unusedVariables false
set_option linter.unusedSimpArgs false
def serialsOf (l:List S71):List ByteArray:=l.flatMap (fun x=>x.f4)
def cN.f (l0:List S71):Option Bool:=if(l0.all fun x=>x.f4.all fun s=>decide (s.size≤maxLen))=true∧(serialsOf l0).length < maxLen then some (dupB [] (serialsOf l0))else none
theorem serialsOf_cons (x:S71) (l:List S71):serialsOf (x::l)=x.f4++serialsOf l:=rfl
theorem cN.calls (A0:Option Addr) (c0:Nat) (l0:List S71) (r:Bool) (w:World) (hr0:Kd.C k71 w A0 l0.length l0) (hc0:l0.length≤c0) (h:cN.f l0=some r):
  Calls Try.prog 126 #[.slice A0 l0.length c0] w fun e w'=>e= .returned (.bool r)∧Below w.heap.size w w':=by
 unfold cN.f at h
 by_cases hg:(l0.all fun x=>x.f4.all fun s=>decide (s.size≤maxLen))=true∧(serialsOf l0).length < maxLen
 case neg=>rw[if_neg hg] at h;cases h
 rw[if_pos hg] at h
 obtain⟨hg1,hg2⟩:=hg
 have hsz: ∀ x ∈ l0,∀ s ∈ x.f4,s.size≤maxLen:=fun x hx s hs=>by
  have h1:=List.all_eq_true.1 hg1 x hx;exact of_decide_eq_true (List.all_eq_true.1 h1 s hs)
 have HZ:=zA hsz
 have H0:Aside0 (dupB [] (serialsOf (l0.drop 0))=r):=⟨by rw[List.drop_zero];exact zKq h⟩
 have HN0:Aside0 (([] :List ByteArray).length+(serialsOf (l0.drop 0)).length < maxLen):=⟨by rw[List.drop_zero];simpa using hg2⟩
 clear h hg1 hg2 hsz
 have hu71:=Try.underlying71
 have hll:l0.length≤9223372036854775807:=hr0.2.1
 have HR0:=zA hr0
 have HC0:=zA hc0
 clear hr0 hc0
 have hmm:=fun(t:TypeId) (w:World)=>run_makeMap (P:=Try.prog) t w
 have hzero: ∀ W:World,(zeroValue 4).run Try.prog W= .ok (.bool false) W:=fun W=>by kernel_rfl
 have HZE:=zA hzero
 clear hzero
 go_enter Try.func126,Try.ntmps126
 go_wp2
 have HS:=zA (Seen.made w Try.prog 9 4)
 have HB:Aside0 (Below w.heap.size w (w.alloc (.map #[] 0))):=⟨zD (Below.refl _ _) _⟩
 generalize w.alloc (.map #[] 0)=w1 at HS HB⊢
 go_loopg[11] l0.length (fun gk v11 wr=> ∃ (i:Nat) (S:List ByteArray),v11= .int .i64 i∧i≤l0.length∧l0.length - i≤gk∧Aside0 (dupB S (serialsOf (l0.drop i))=r)∧Aside0 (S.length+(serialsOf (l0.drop i)).length < maxLen)∧Aside0 (Seen Try.prog 9 4 wr w.heap.size S)∧Aside0 (Below w.heap.size w wr))
 case atStart=>exact⟨0,[],by go_num,Nat.zero_le _,by omega,H0,HN0,HS,HB⟩
 case round=>
  clear HS HB H0 HN0;obtain⟨i,S,rfl,hi,hgk,H,HN,HS,HB⟩:=hrel;by_cases hlt:i < l0.length
  ·have hltz:(i:Int) < (l0.length:Int):=by omega
   obtain⟨x,hx⟩: ∃ x,x=rd_T71 l0 (i:Int):=⟨_,rfl⟩
   have hxi:x=l0[i] :=by rw[hx];unfold rd_T71;simp[hlt]
   have hdrop:l0.drop i=x::l0.drop (i+1):=by rw[hxi];exact List.drop_eq_getElem_cons hlt
   have HX:Aside0 (∀ s ∈ x.f4,s.size≤maxLen):=⟨HZ.out x (by rw[hxi];exact List.getElem_mem hlt)⟩
   have H1:Aside0 (dupB S (x.f4.drop 0++serialsOf (l0.drop (i+1)))=r):=⟨by have:=H.out;rw[hdrop,serialsOf_cons] at this;rw[List.drop_zero];exact this⟩
   have HN1:Aside0 (S.length+(x.f4.drop 0++serialsOf (l0.drop (i+1))).length < maxLen):=⟨by have:=HN.out;rw[hdrop,serialsOf_cons] at this;rw[List.drop_zero];exact this⟩
   clear H HN hxi hdrop;have p929:0≤(i:Int):=by omega
   obtain⟨ad929,A929_4,c929_4,e929,hx929_0,hx929_1,hx929_2,hx929_3,hx929_4,hl929_4,hi929_4⟩:=at_T71 HR0.out (i:Int) p929 hltz;rw[←hx] at hx929_0 hx929_1 hx929_2 hx929_3 hx929_4 hl929_4 hi929_4;clear hx;cases e929
   replace hx929_0:=qU_ hx929_0;replace hx929_1:=qU_ hx929_1;replace hx929_2:=qU_ hx929_2;replace hx929_3:=qU_ hx929_3;replace hx929_4:=qU_ hx929_4;simp only[Int.toNat_natCast] at hx929_0 hx929_1 hx929_2 hx929_3 hx929_4;have hsl:x.f4.length≤9223372036854775807:=hi929_4.2.1;have HR4:=zA hi929_4;have HC4:=zA hl929_4;clear hi929_4 hl929_4;go_wp2_with (first|((with_reducible refine gate_dst (N:=5) rfl ?_);refine box_event qr (N:=5) qr (cs:= #[.int .i64 0,.int .i64 0,.int .i64 0,.int .i64 0,.slice none 0 0]) (t:=71) qg ?_;intro gb930 hg w7 hbox hb;have n0_:=zA (zV HB.out hb);have n1_:=zA (hbox);have n2_:=zA ((by rw[hg];exact HB.out.size):w.heap.size≤gb930);have n3_:=zA (HS.out.below hb);have n4_:Aside0 (w.heap.size≠gb930):=⟨by rw[hg];exact zLq HS.out.lt⟩;clear HB HS;have HB:=n0_;have BK930:=n1_;have GE930:=n2_;have HS:=n3_;have HNE:=n4_;clear n0_ n1_ n2_ n3_ n4_ hb hbox hg;obtain⟨hcz8_0,hcz8_1,hcz8_2,hcz8_3,hcz8_4,hfz8_0,hfz8_1,hfz8_2,hfz8_3,hfz8_4⟩:=qc5f BK930.out));clear hx929_0 hx929_1 hx929_2 hx929_3 hx929_4;go_loopg[18] x.f4.length (fun gk2 v18 wr2=> ∃ (j:Nat) (S2:List ByteArray),v18= .int .i64 j∧j≤x.f4.length∧x.f4.length - j≤gk2∧Aside0 (dupB S2 (x.f4.drop j++serialsOf (l0.drop (i+1)))=r)∧Aside0 (S2.length+(x.f4.drop j++serialsOf (l0.drop (i+1))).length < maxLen)∧Aside0 (Seen Try.prog 9 4 wr2 w.heap.size S2)∧Aside0 (Below w.heap.size w wr2))
   case atStart=>exact⟨0,S,by go_num,Nat.zero_le _,by omega,H1,HN1,⟨by repeat(first|exact HS.out|refine Seen.set ?_ HNE.out _)⟩,⟨by repeat(first|exact HB.out|refine zE ?_ GE930.out)⟩⟩
   case round=>
    clear H1 HN1 HS HB;try clear hcz8_0 hcz8_1 hcz8_2 hcz8_3 hcz8_4 hfz8_0 hfz8_1 hfz8_2 hfz8_3 hfz8_4
    obtain⟨j,S2,rfl,hj,hgk2,H,HN,HS,HB⟩:=hrel;by_cases hlt2:j < x.f4.length
    ·have hlt2z:(j:Int) < (x.f4.length:Int):=by omega
     obtain⟨s,hs⟩: ∃ s,s=rdOf ByteArray.empty x.f4 (j:Int):=⟨_,rfl⟩
     have hsj:s=x.f4[j] :=by rw[hs];unfold rdOf;simp[hlt2]
     have hdrop:x.f4.drop j=s::x.f4.drop (j+1):=by rw[hsj];exact List.drop_eq_getElem_cons hlt2
     have HSS:Aside0 (s.size≤maxLen):=⟨HX.out s (by rw[hsj];exact List.getElem_mem hlt2)⟩
     have H1:=H.out;have HN1:=HN.out;rw[hdrop,List.cons_append] at H1 HN1;rw[dupB] at H1;have HL:Aside0 (S2.length < maxLen):=⟨by rw[List.length_cons] at HN1;omega⟩
     have HN2:Aside0 ((S2++ [s]).length+(x.f4.drop (j+1)++serialsOf (l0.drop (i+1))).length < maxLen):=⟨by rw[List.length_cons] at HN1;rw[List.length_append];simp only[List.length_singleton];omega⟩
     clear H HN HN1 hsj hdrop;have p598:0≤(j:Int):=by omega
     obtain⟨ad598,e598,hx598_0⟩:=Kd.at_string HR4.out (j:Int) p598 hlt2z;rw[←hs] at hx598_0;clear hs;cases e598
     replace hx598_0:=qU_ hx598_0;simp only[Int.toNat_natCast] at hx598_0;cases hm:memB S2 s with
     |true=>
      rw[hm,Bool.true_or] at H1;subst H1;have HM:=zA hm;clear hm;go_wp2_with (first|(at_lookup;refine wpList_look_seen _ rfl _ _ _ 9 4 rfl Try.underlying9 Try.underlying161 Try.underlying4 (HZE.out _) w.heap.size S2 s rfl HS.out rfl HSS.out ?_;rw[HM.out]));go_ret;exact⟨rfl,HB.out⟩
     |false=>
      rw[hm,Bool.false_or] at H1;have H2:=zA H1;have HM:=zA hm;clear hm H1;go_wp2_with (first|(at_lookup;refine wpList_look_seen _ rfl _ _ _ 9 4 rfl Try.underlying9 Try.underlying161 Try.underlying4 (HZE.out _) w.heap.size S2 s rfl HS.out rfl HSS.out ?_;rw[HM.out])|(at_mapUpdate;refine wpList_put_seen _ rfl _ _ _ _ 9 4 rfl Try.underlying9 Try.underlying161 Try.underlying4 w.heap.size S2 s rfl HS.out rfl rfl HSS.out HL.out ?_;intro w9 hs9 hg9;have n0_:=zA hs9;have n1_:=zA (HB.out.grown hg9 HB.out.size (fun k_ hk_=>by injection hk_ with hk_;omega));clear hs9 hg9 HS HB;have HS:=n0_;have HB:=n1_;clear n0_ n1_));go_roundg (x.f4.length - (j+1))
      case measure=>omega
      case rel=>exact⟨j+1,S2++ [s],by go_num,by omega,by omega,H2,HN2,HS,HB⟩
    have hlt2z: ¬ (j:Int) < (x.f4.length:Int):=by omega
    have hjl:j=x.f4.length:=by omega
    have H2:Aside0 (dupB S2 (serialsOf (l0.drop (i+1)))=r):=⟨by have:=H.out;rw[hjl,List.drop_length,List.nil_append] at this;exact this⟩
    have HN2:Aside0 (S2.length+(serialsOf (l0.drop (i+1))).length < maxLen):=⟨by have:=HN.out;rw[hjl,List.drop_length,List.nil_append] at this;exact this⟩
    clear H HN hjl;go_wp2;go_roundg (l0.length - (i+1))
    case measure=>omega
    case rel=>exact⟨i+1,S2,by go_num,by omega,by omega,H2,HN2,HS,HB⟩
  have hltz: ¬ (i:Int) < (l0.length:Int):=by omega
  have hil:i=l0.length:=by omega
  have hr:r=false:=by have:=H.out;rw[hil,List.drop_length] at this;exact this.symm
  subst hr;clear hil;go_wp2;go_ret;exact⟨rfl,HB.out⟩
def bK.f (a0:Int):Option (Bool):=if a0≥(-1000000000000)then(some (decide (a0≤1000000000000)))else(some false)
theorem bK.calls (a0:Int) (r:Bool) (w:World) (h:bK.f a0=some r):
  Calls Try.prog 31 #[.int .i64 a0] w fun e w'=>e= .returned (.bool r)∧Drawn0 w w':=by
 have H:(if a0≥(-1000000000000)then(some (decide (a0≤1000000000000)))else(some false))=some r:=h
 clear h
 by_cases c2:a0≥(-1000000000000)
 ·rw[if_pos c2] at H
  have c2b0:decide ((-1000000000000)≤a0)=true:=zFq c2;clear c2;obtain rfl:=zKq H;go_enter Try.func31,Try.ntmps31;go_wp2;go_ret;exact⟨by first|rfl|(simp;done)|(simp[*];done),by repeat(first|exact Drawn0.refl _|apply Drawn0.step)⟩
 rw[if_neg c2] at H
 have c2b0:decide ((-1000000000000)≤a0)=false:=zGq c2
 clear c2
 obtain rfl:=zKq H
 go_enter Try.func31,Try.ntmps31
 go_wp2
 go_ret
 exact⟨by first|rfl|(simp;done)|(simp[*];done),by repeat(first|exact Drawn0.refl _|apply Drawn0.step)⟩
def aZ.l0:Nat→Int→List Int→Int→Int→Option (Int × Int)
  |0,_,_,_,_=>none
  |k+1,x4,x7,x8,x9=>if x9 < x8 then(if 0≤x9 then(if x9 < (x7.length:Int)then((bK.f (rd x7 x9)).bind fun t102=> (if t102=true then((bK.f (wrap64 (x4+(rd x7 x9)))).bind fun t103=> (if t103=true then(aZ.l0 k (wrap64 (x4+(rd x7 x9))) x7 x8 (wrap64 (x9+1)))else(some (0,8))))else(some (0,8))))else(none))else(none))else(some (x4,0))
def aZ.f (k:Nat) (l0:List Int):Option (Int × Int):=aZ.l0 k 0 l0 (l0.length:Int) 0
theorem aZ.mono_l: ∀ k,(∀ y0 y1 y2 y3,LeO (aZ.l0 k y0 y1 y2 y3) (aZ.l0 (k+1) y0 y1 y2 y3))
  |0=>fun _ _ _ _ r h=>by simp[aZ.l0] at h
  |k+1=>by
    have ih0:=aZ.mono_l k
    intro y0 y1 y2 y3
    unfold aZ.l0
    repeat' (with_reducible first|exact ih0 _ _ _ _|exact LeO.refl _|exact LeO.none _|refine LeO.ite ?_ ?_|refine LeO.bind ?_ (fun _=>?_))
theorem aZ.mono: ∀ a0 k,LeO (aZ.f k a0) (aZ.f (k+1) a0):=by
  intro a0 k
  have ih0:=aZ.mono_l k
  unfold aZ.f
  repeat' (with_reducible first|exact ih0 _ _ _ _|exact LeO.refl _|exact LeO.none _|refine LeO.ite ?_ ?_|refine LeO.bind ?_ (fun _=>?_))
theorem aZ.calls (k:Nat) (A0:Option Addr) (c0:Nat) (l0:List Int) (r1:Int) (r2:Int) (w:World) (hr0:Kd.C (Kd.int .i64) w A0 l0.length l0) (hc0:l0.length≤c0) (h:aZ.f k l0=some (r1,r2)):
  Calls Try.prog 25 #[.slice A0 l0.length c0] w fun e w'=>e= .returned (.tuple #[.int .i64 r1,.int .i64 r2])∧Drawn0 w w':=by
 have HR0:=zA hr0
 have HC0:=zA hc0
 clear hr0 hc0
 have H:(aZ.l0 k 0 l0 (l0.length:Int) 0)=some (r1,r2):=h
 clear h
 have H':=zA H
 clear H
 go_enter Try.func25,Try.ntmps25
 go_wp2
 go_loopg[4,9] k (fun kq v4 v9 w'=> ∃ (x4_1:Int) (x9_1:Int),v4= .int .i64 x4_1∧v9= .int .i64 x9_1∧Aside0 (aZ.l0 kq x4_1 l0 (l0.length:Int) x9_1=some (r1,r2))∧Aside0 (kq≤k)∧Drawn0 w w')
 case atStart=>exact⟨(0),(0),qF_,qF_,H',⟨Nat.le_refl _⟩,by repeat(first|exact Drawn0.refl _|apply Drawn0.step)⟩
 case round=>
  clear H';obtain⟨x4_1,x9_1,rfl,rfl,HA,HK1,⟨m1,rfl⟩⟩:=hrel;cases gk with
  |zero=>exact absurd HA.out (by simp[aZ.l0])
  |succ k1=>
   have H:=HA.out;clear HA;simp only[aZ.l0] at H;by_cases c2:x9_1 < (l0.length:Int)
   ·rw[if_pos c2] at H
    have c2b0:=zFq c2;clear c2;by_cases c3:0≤x9_1
    ·rw[if_pos c3] at H
     have c3b0:=zFq c3;clear c3;by_cases c4:x9_1 < (l0.length:Int)
     ·rw[if_pos c4] at H
      have c4b0:=zFq c4;clear c4;obtain⟨t102,A5,H⟩:=qD_ H;(try dsimp only at H);by_cases c6:t102=true
      ·subst c6
       have H1:((bK.f (wrap64 (x4_1+(rd l0 x9_1)))).bind fun t103=> (if t103=true then(aZ.l0 k1 (wrap64 (x4_1+(rd l0 x9_1))) l0 (l0.length:Int) (wrap64 (x9_1+1)))else(some (0,8))))=some (r1,r2):=by first|(rw[if_pos rfl] at H;exact H)|rfl
       clear H;have H:=H1;clear H1;obtain⟨t103,A7,H⟩:=qD_ H;(try dsimp only at H);by_cases c8:t103=true
       ·subst c8
        have H1:(aZ.l0 k1 (wrap64 (x4_1+(rd l0 x9_1))) l0 (l0.length:Int) (wrap64 (x9_1+1)))=some (r1,r2):=by first|(rw[if_pos rfl] at H;exact H)|rfl
        clear H;have H:=H1;clear H1;have H':=zA H;clear H;have p101:0≤(x9_1:Int):=qO_;have q101:x9_1 < (l0.length:Int):=qO_;obtain⟨ad101,e101,hx101_0⟩:=Kd.at_int HR0.out x9_1 p101 q101;cases e101
        replace p101:=eq_true p101;replace q101:=eq_true q101;go_wp2_with (first|((with_reducible refine zJq (f:=31) rfl ?_);refine goesL_ (some 14) rfl rfl Try.func31 (by kernel_rfl) rfl #[.int .i64 (rd l0 x9_1)] rfl qG ?_;(with_reducible refine(bK.calls (rd l0 x9_1) true _ A5.out).mono ?_);rintro e w' ⟨rfl,⟨nd,rfl⟩⟩;refine⟨_,rfl,?_⟩)|(go_at_call 31;(with_reducible refine(bK.calls (wrap64 (x4_1+(rd l0 x9_1))) true _ A7.out).mono ?_);rintro e w' ⟨rfl,⟨nd,rfl⟩⟩));go_roundg k1
        case measure=>have:=HK1.out;omega
        case rel=>exact⟨(wrap64 (x4_1+(rd l0 x9_1))),(wrap64 (x9_1+1)),qF_,qF_,H',⟨by have:=HK1.out;omega⟩,by repeat(first|exact Drawn0.refl _|apply Drawn0.step)⟩
       replace c8:=Bool.eq_false_iff.mpr c8;subst c8;have H1:(some (0,8))=some (r1,r2):=by first|(rw[if_neg (show ¬ (false=true) by decide)] at H;exact H)|rfl
       clear H;have H:=H1;clear H1;simp only[zNq,zOq] at H;obtain⟨rfl,rfl⟩:=H;have p101:0≤(x9_1:Int):=qO_;have q101:x9_1 < (l0.length:Int):=qO_;obtain⟨ad101,e101,hx101_0⟩:=Kd.at_int HR0.out x9_1 p101 q101;cases e101
       replace p101:=eq_true p101;replace q101:=eq_true q101;go_wp2_with (first|((with_reducible refine zJq (f:=31) rfl ?_);refine goesL_ (some 14) rfl rfl Try.func31 (by kernel_rfl) rfl #[.int .i64 (rd l0 x9_1)] rfl qG ?_;(with_reducible refine(bK.calls (rd l0 x9_1) true _ A5.out).mono ?_);rintro e w' ⟨rfl,⟨nd,rfl⟩⟩;refine⟨_,rfl,?_⟩)|(go_at_call 31;(with_reducible refine(bK.calls (wrap64 (x4_1+(rd l0 x9_1))) false _ A7.out).mono ?_);rintro e w' ⟨rfl,⟨nd,rfl⟩⟩));go_ret2;exact⟨by first|rfl|(simp;done)|(simp[*];done),by repeat(first|exact Drawn0.refl _|apply Drawn0.step)⟩
      replace c6:=Bool.eq_false_iff.mpr c6;subst c6;have H1:(some (0,8))=some (r1,r2):=by first|(rw[if_neg (show ¬ (false=true) by decide)] at H;exact H)|rfl
      clear H;have H:=H1;clear H1;simp only[zNq,zOq] at H;obtain⟨rfl,rfl⟩:=H;have p101:0≤(x9_1:Int):=qO_;have q101:x9_1 < (l0.length:Int):=qO_;obtain⟨ad101,e101,hx101_0⟩:=Kd.at_int HR0.out x9_1 p101 q101;cases e101
      replace p101:=eq_true p101;replace q101:=eq_true q101;go_wp2_with (first|((with_reducible refine zJq (f:=31) rfl ?_);refine goesL_ (some 14) rfl rfl Try.func31 (by kernel_rfl) rfl #[.int .i64 (rd l0 x9_1)] rfl qG ?_;(with_reducible refine(bK.calls (rd l0 x9_1) false _ A5.out).mono ?_);rintro e w' ⟨rfl,⟨nd,rfl⟩⟩;refine⟨_,rfl,?_⟩));go_ret2;exact⟨by first|rfl|(simp;done)|(simp[*];done),by repeat(first|exact Drawn0.refl _|apply Drawn0.step)⟩
     rw[if_neg c4] at H;exact absurd H (by simp)
    rw[if_neg c3] at H;exact absurd H (by simp)
   rw[if_neg c2] at H;have c2b0:=zGq c2;clear c2;simp only[zNq,zOq] at H;obtain⟨rfl,rfl⟩:=H;go_wp2;go_ret2;exact⟨by first|rfl|(simp;done)|(simp[*];done),by repeat(first|exact Drawn0.refl _|apply Drawn0.step)⟩
def cB.f (a0:Int):Option (Bool):=if a0≥0 then((bK.f a0).bind fun t101=> (some t101))else(some false)
theorem cB.calls (a0:Int) (r:Bool) (w:World) (h:cB.f a0=some r):
  Calls Try.prog 114 #[.int .i64 a0] w fun e w'=>e= .returned (.bool r)∧Drawn0 w w':=by
 have H:(if a0≥0 then((bK.f a0).bind fun t101=> (some t101))else(some false))=some r:=h
 clear h
 by_cases c2:a0≥0
 ·rw[if_pos c2] at H
  have c2b0:decide (0≤a0)=true:=zFq c2;clear c2;obtain⟨t101,A3,H⟩:=qD_ H;(try dsimp only at H);obtain rfl:=zKq H;go_enter Try.func114,Try.ntmps114;go_wp2_with (first|(go_at_call 31;(with_reducible refine(bK.calls a0 t101 _ A3.out).mono ?_);rintro e w' ⟨rfl,⟨nd,rfl⟩⟩));go_ret;exact⟨by first|rfl|(simp;done)|(simp[*];done),by repeat(first|exact Drawn0.refl _|apply Drawn0.step)⟩
 rw[if_neg c2] at H
 have c2b0:decide (0≤a0)=false:=zGq c2
 clear c2
 obtain rfl:=zKq H
 go_enter Try.func114,Try.ntmps114
 go_wp2
 go_ret
 exact⟨by first|rfl|(simp;done)|(simp[*];done),by repeat(first|exact Drawn0.refl _|apply Drawn0.step)⟩
def cK.f (a0_0:Int) (a0_1:Int) (a0_2:Int) (a0_3:Int) (l0_4:List ByteArray):Option (Bool):=(cB.f a0_1).bind fun t102=> (if t102=true then((cB.f a0_2).bind fun t103=> (if t103=true then((cB.f a0_3).bind fun t104=> (if t104=true then(if a0_2≤a0_1 then((bK.f (wrap64 (a0_2+a0_3))).bind fun t105=> (some t105))else(some false))else(some false)))else(some false)))else(some false))
theorem cK.calls (a0_0:Int) (a0_1:Int) (a0_2:Int) (a0_3:Int) (A0_4:Option Addr) (c0_4:Nat) (l0_4:List ByteArray) (r:Bool) (w:World) (hr0_4:Kd.C Kd.string w A0_4 l0_4.length l0_4) (hc0_4:l0_4.length≤c0_4) (h:cK.f a0_0 a0_1 a0_2 a0_3 l0_4=some r):
  Calls Try.prog 118 #[.agg #[.int .i64 a0_0,.int .i64 a0_1,.int .i64 a0_2,.int .i64 a0_3,.slice A0_4 l0_4.length c0_4]] w fun e w'=>e= .returned (.bool r)∧Below w.heap.size w w':=by
 have hu136:=Try.underlying136
 have HR0_4:=zA hr0_4
 have HC0_4:=zA hc0_4
 clear hr0_4 hc0_4
 have HB:=zA (Below.refl w.heap.size w)
 have H:((cB.f a0_1).bind fun t102=> (if t102=true then((cB.f a0_2).bind fun t103=> (if t103=true then((cB.f a0_3).bind fun t104=> (if t104=true then(if a0_2≤a0_1 then((bK.f (wrap64 (a0_2+a0_3))).bind fun t105=> (some t105))else(some false))else(some false)))else(some false)))else(some false)))=some r:=h
 clear h
 obtain⟨t102,A2,H⟩:=qD_ H
 (try dsimp only at H)
 by_cases c3:t102=true
 ·subst c3
  have H1:((cB.f a0_2).bind fun t103=> (if t103=true then((cB.f a0_3).bind fun t104=> (if t104=true then(if a0_2≤a0_1 then((bK.f (wrap64 (a0_2+a0_3))).bind fun t105=> (some t105))else(some false))else(some false)))else(some false)))=some r:=by first|(rw[if_pos rfl] at H;exact H)|rfl
  clear H;have H:=H1;clear H1;obtain⟨t103,A4,H⟩:=qD_ H;(try dsimp only at H);by_cases c5:t103=true
  ·subst c5
   have H1:((cB.f a0_3).bind fun t104=> (if t104=true then(if a0_2≤a0_1 then((bK.f (wrap64 (a0_2+a0_3))).bind fun t105=> (some t105))else(some false))else(some false)))=some r:=by first|(rw[if_pos rfl] at H;exact H)|rfl
   clear H;have H:=H1;clear H1;obtain⟨t104,A6,H⟩:=qD_ H;(try dsimp only at H);by_cases c7:t104=true
   ·subst c7
    have H1:(if a0_2≤a0_1 then((bK.f (wrap64 (a0_2+a0_3))).bind fun t105=> (some t105))else(some false))=some r:=by first|(rw[if_pos rfl] at H;exact H)|rfl
    clear H;have H:=H1;clear H1;by_cases c8:a0_2≤a0_1
    ·rw[if_pos c8] at H
     have c8b0:=zFq c8;clear c8;obtain⟨t105,A9,H⟩:=qD_ H;(try dsimp only at H);obtain rfl:=zKq H;go_enter Try.func118,Try.ntmps118;go_wp2_with (first|((with_reducible refine gate_dst (N:=1) rfl ?_);refine box_event qr (N:=1) qr (cs:= #[.int .i64 a0_0,.int .i64 a0_1,.int .i64 a0_2,.int .i64 a0_3,.slice A0_4 l0_4.length c0_4]) (t:=136) qg ?_;intro gb101 hg w10 hbox hb;have BK101:=zA (hbox);have GW101:=zA ((qS:w.heap.size≤gb101));have GE101:=zA ((qS:w.heap.size≤gb101));replace HB:=zA (zV qB hb);clear hb hbox hg;obtain⟨_,_,_,_,_,_,_,_,_,_⟩:=qc5f BK101.out)|((with_reducible refine zJq (f:=114) rfl ?_);refine goesL_ (some 5) rfl rfl Try.func114 (by kernel_rfl) rfl #[.int .i64 a0_1] rfl qG ?_;(with_reducible refine(cB.calls a0_1 true _ A2.out).mono ?_);rintro e w' ⟨rfl,⟨nd,rfl⟩⟩;refine⟨_,rfl,?_⟩)|(go_at_call 114;(with_reducible refine(cB.calls a0_2 true _ A4.out).mono ?_);rintro e w' ⟨rfl,⟨nd,rfl⟩⟩)|(go_at_call 114;(with_reducible refine(cB.calls a0_3 true _ A6.out).mono ?_);rintro e w' ⟨rfl,⟨nd,rfl⟩⟩)|(go_at_call 31;(with_reducible refine(bK.calls (wrap64 (a0_2+a0_3)) t105 _ A9.out).mono ?_);rintro e w' ⟨rfl,⟨nd,rfl⟩⟩));go_ret;exact⟨qE,qB⟩
    rw[if_neg c8] at H;have c8b0:=zGq c8;clear c8;obtain rfl:=zKq H;go_enter Try.func118,Try.ntmps118;go_wp2_with (first|((with_reducible refine gate_dst (N:=1) rfl ?_);refine box_event qr (N:=1) qr (cs:= #[.int .i64 a0_0,.int .i64 a0_1,.int .i64 a0_2,.int .i64 a0_3,.slice A0_4 l0_4.length c0_4]) (t:=136) qg ?_;intro gb101 hg w12 hbox hb;have BK101:=zA (hbox);have GW101:=zA ((qS:w.heap.size≤gb101));have GE101:=zA ((qS:w.heap.size≤gb101));replace HB:=zA (zV qB hb);clear hb hbox hg;obtain⟨_,_,_,_,_,_,_,_,_,_⟩:=qc5f BK101.out)|((with_reducible refine zJq (f:=114) rfl ?_);refine goesL_ (some 5) rfl rfl Try.func114 (by kernel_rfl) rfl #[.int .i64 a0_1] rfl qG ?_;(with_reducible refine(cB.calls a0_1 true _ A2.out).mono ?_);rintro e w' ⟨rfl,⟨nd,rfl⟩⟩;refine⟨_,rfl,?_⟩)|(go_at_call 114;(with_reducible refine(cB.calls a0_2 true _ A4.out).mono ?_);rintro e w' ⟨rfl,⟨nd,rfl⟩⟩)|(go_at_call 114;(with_reducible refine(cB.calls a0_3 true _ A6.out).mono ?_);rintro e w' ⟨rfl,⟨nd,rfl⟩⟩));go_ret;exact⟨qE,qB⟩
   replace c7:=Bool.eq_false_iff.mpr c7;subst c7;have H1:(some false)=some r:=by first|(rw[if_neg (show ¬ (false=true) by decide)] at H;exact H)|rfl
   clear H;have H:=H1;clear H1;obtain rfl:=zKq H;go_enter Try.func118,Try.ntmps118;go_wp2_with (first|((with_reducible refine gate_dst (N:=1) rfl ?_);refine box_event qr (N:=1) qr (cs:= #[.int .i64 a0_0,.int .i64 a0_1,.int .i64 a0_2,.int .i64 a0_3,.slice A0_4 l0_4.length c0_4]) (t:=136) qg ?_;intro gb101 hg w14 hbox hb;have BK101:=zA (hbox);have GW101:=zA ((qS:w.heap.size≤gb101));have GE101:=zA ((qS:w.heap.size≤gb101));replace HB:=zA (zV qB hb);clear hb hbox hg;obtain⟨_,_,_,_,_,_,_,_,_,_⟩:=qc5f BK101.out)|((with_reducible refine zJq (f:=114) rfl ?_);refine goesL_ (some 5) rfl rfl Try.func114 (by kernel_rfl) rfl #[.int .i64 a0_1] rfl qG ?_;(with_reducible refine(cB.calls a0_1 true _ A2.out).mono ?_);rintro e w' ⟨rfl,⟨nd,rfl⟩⟩;refine⟨_,rfl,?_⟩)|(go_at_call 114;(with_reducible refine(cB.calls a0_2 true _ A4.out).mono ?_);rintro e w' ⟨rfl,⟨nd,rfl⟩⟩)|(go_at_call 114;(with_reducible refine(cB.calls a0_3 false _ A6.out).mono ?_);rintro e w' ⟨rfl,⟨nd,rfl⟩⟩));go_ret;exact⟨qE,qB⟩
  replace c5:=Bool.eq_false_iff.mpr c5;subst c5;have H1:(some false)=some r:=by first|(rw[if_neg (show ¬ (false=true) by decide)] at H;exact H)|rfl
  clear H;have H:=H1;clear H1;obtain rfl:=zKq H;go_enter Try.func118,Try.ntmps118;go_wp2_with (first|((with_reducible refine gate_dst (N:=1) rfl ?_);refine box_event qr (N:=1) qr (cs:= #[.int .i64 a0_0,.int .i64 a0_1,.int .i64 a0_2,.int .i64 a0_3,.slice A0_4 l0_4.length c0_4]) (t:=136) qg ?_;intro gb101 hg w16 hbox hb;have BK101:=zA (hbox);have GW101:=zA ((qS:w.heap.size≤gb101));have GE101:=zA ((qS:w.heap.size≤gb101));replace HB:=zA (zV qB hb);clear hb hbox hg;obtain⟨_,_,_,_,_,_,_,_,_,_⟩:=qc5f BK101.out)|((with_reducible refine zJq (f:=114) rfl ?_);refine goesL_ (some 5) rfl rfl Try.func114 (by kernel_rfl) rfl #[.int .i64 a0_1] rfl qG ?_;(with_reducible refine(cB.calls a0_1 true _ A2.out).mono ?_);rintro e w' ⟨rfl,⟨nd,rfl⟩⟩;refine⟨_,rfl,?_⟩)|(go_at_call 114;(with_reducible refine(cB.calls a0_2 false _ A4.out).mono ?_);rintro e w' ⟨rfl,⟨nd,rfl⟩⟩));go_ret;exact⟨qE,qB⟩
 replace c3:=Bool.eq_false_iff.mpr c3
 subst c3
 have H1:(some false)=some r:=by first|(rw[if_neg (show ¬ (false=true) by decide)] at H;exact H)|rfl
 clear H
 have H:=H1
 clear H1
 obtain rfl:=zKq H
 go_enter Try.func118,Try.ntmps118
 go_wp2_with (first|((with_reducible refine gate_dst (N:=1) rfl ?_);refine box_event qr (N:=1) qr (cs:= #[.int .i64 a0_0,.int .i64 a0_1,.int .i64 a0_2,.int .i64 a0_3,.slice A0_4 l0_4.length c0_4]) (t:=136) qg ?_;intro gb101 hg w18 hbox hb;have BK101:=zA (hbox);have GW101:=zA ((qS:w.heap.size≤gb101));have GE101:=zA ((qS:w.heap.size≤gb101));replace HB:=zA (zV qB hb);clear hb hbox hg;obtain⟨_,_,_,_,_,_,_,_,_,_⟩:=qc5f BK101.out)|((with_reducible refine zJq (f:=114) rfl ?_);refine goesL_ (some 5) rfl rfl Try.func114 (by kernel_rfl) rfl #[.int .i64 a0_1] rfl qG ?_;(with_reducible refine(cB.calls a0_1 false _ A2.out).mono ?_);rintro e w' ⟨rfl,⟨nd,rfl⟩⟩;refine⟨_,rfl,?_⟩))
 go_ret
 exact⟨qE,qB⟩
def dC.f (a0:Int):Option (Int):=if a0≥97 then(if a0≤122 then(some (wrap32 ((wrap32 (a0 - 97))+65)))else(some a0))else(some a0)
theorem dC.calls (a0:Int) (r:Int) (w:World) (h:dC.f a0=some r):
  Calls Try.prog 160 #[.int .i32 a0] w fun e w'=>e= .returned (.int .i32 r)∧Drawn0 w w':=by
 have H:(if a0≥97 then(if a0≤122 then(some (wrap32 ((wrap32 (a0 - 97))+65)))else(some a0))else(some a0))=some r:=h
 clear h
 by_cases c2:a0≥97
 ·rw[if_pos c2] at H
  have c2b0:decide (97≤a0)=true:=zFq c2;clear c2;by_cases c3:a0≤122
  ·rw[if_pos c3] at H
   have c3b0:=zFq c3;clear c3;obtain rfl:=zKq H;go_enter Try.func160,Try.ntmps160;go_wp2;go_ret;exact⟨by first|rfl|(simp;done)|(simp[*];done),by repeat(first|exact Drawn0.refl _|apply Drawn0.step)⟩
  rw[if_neg c3] at H;have c3b0:=zGq c3;clear c3;obtain rfl:=zKq H;go_enter Try.func160,Try.ntmps160;go_wp2;go_ret;exact⟨by first|rfl|(simp;done)|(simp[*];done),by repeat(first|exact Drawn0.refl _|apply Drawn0.step)⟩
 rw[if_neg c2] at H
 have c2b0:decide (97≤a0)=false:=zGq c2
 clear c2
 obtain rfl:=zKq H
 go_enter Try.func160,Try.ntmps160
 go_wp2
 go_ret
 exact⟨by first|rfl|(simp;done)|(simp[*];done),by repeat(first|exact Drawn0.refl _|apply Drawn0.step)⟩
mutual
def bQ.j0:Nat→Int→Bool→Option (Int)
  |0,_,_=>none
  |k+1,x0,x3=>if x3=true then(some 1)else(if x0≥48 then(bQ.j1 k x0 (decide (x0≤57)))else(bQ.j1 k x0 false))
def bQ.j1:Nat→Int→Bool→Option (Int)
  |0,_,_=>none
  |k+1,x0,x18=>if x18=true then(some 2)else(if x0=45 then(some 3)else(some 0))
end
def bQ.f (k:Nat) (a0:Int):Option (Int):=if a0≥97 then(if a0≤122 then(bQ.j0 k a0 true)else(if a0≥65 then(bQ.j0 k a0 (decide (a0≤90)))else(bQ.j0 k a0 false)))else(if a0≥65 then(bQ.j0 k a0 (decide (a0≤90)))else(bQ.j0 k a0 false))
theorem bQ.calls (k:Nat) (a0:Int) (r:Int) (w:World) (h:bQ.f k a0=some r):
  Calls Try.prog 166 #[.int .i32 a0] w fun e w'=>e= .returned (.int .i64 r)∧Drawn0 w w':=by
 have H:(if a0≥97 then(if a0≤122 then(bQ.j0 k a0 true)else(if a0≥65 then(bQ.j0 k a0 (decide (a0≤90)))else(bQ.j0 k a0 false)))else(if a0≥65 then(bQ.j0 k a0 (decide (a0≤90)))else(bQ.j0 k a0 false)))=some r:=h
 clear h
 have HC2:=zA H
 clear H
 go_enter Try.func166,Try.ntmps166
 go_upto_region 1 with(fail)
 go_cut[3] (fun v3 wc=> ∃ (kq:Nat) (x3_1:Bool),v3= .bool x3_1∧Aside0 (bQ.j0 kq a0 x3_1=some r)∧Aside0 (kq≤k)∧Drawn0 w wc)
 case first=>
  have H:=HC2.out;clear HC2;by_cases c3:a0≥97
  ·rw[if_pos c3] at H
   have c3b0:decide (97≤a0)=true:=zFq c3;clear c3;(first|rw[c3b0] |(simp only[i64_w,i32_w];rw[c3b0])|skip)
   by_cases c4:a0≤122
   ·rw[if_pos c4] at H
    have c4b0:=zFq c4;clear c4;have H':=zA H;clear H;go_wp2;go_meet
    case rel=>exact⟨_,(true),qF_,H',⟨by first|omega|exact Nat.le_refl _⟩,by repeat(first|exact Drawn0.refl _|apply Drawn0.step)⟩
   rw[if_neg c4] at H;have c4b0:=zGq c4;clear c4;by_cases c5:a0≥65
   ·rw[if_pos c5] at H
    have c5b0:decide (65≤a0)=true:=zFq c5;clear c5;have H':=zA H;clear H;go_wp2;go_meet
    case rel=>exact⟨_,(decide (a0≤90)),qF_,H',⟨by first|omega|exact Nat.le_refl _⟩,by repeat(first|exact Drawn0.refl _|apply Drawn0.step)⟩
   rw[if_neg c5] at H;have c5b0:decide (65≤a0)=false:=zGq c5;clear c5;have H':=zA H;clear H;go_wp2;go_meet
   case rel=>exact⟨_,(false),qF_,H',⟨by first|omega|exact Nat.le_refl _⟩,by repeat(first|exact Drawn0.refl _|apply Drawn0.step)⟩
  rw[if_neg c3] at H;have c3b0:decide (97≤a0)=false:=zGq c3;clear c3;(first|rw[c3b0] |(simp only[i64_w,i32_w];rw[c3b0])|skip)
  by_cases c6:a0≥65
  ·rw[if_pos c6] at H
   have c6b0:decide (65≤a0)=true:=zFq c6;clear c6;have H':=zA H;clear H;go_wp2;go_meet
   case rel=>exact⟨_,(decide (a0≤90)),qF_,H',⟨by first|omega|exact Nat.le_refl _⟩,by repeat(first|exact Drawn0.refl _|apply Drawn0.step)⟩
  rw[if_neg c6] at H;have c6b0:decide (65≤a0)=false:=zGq c6;clear c6;have H':=zA H;clear H;go_wp2;go_meet
  case rel=>exact⟨_,(false),qF_,H',⟨by first|omega|exact Nat.le_refl _⟩,by repeat(first|exact Drawn0.refl _|apply Drawn0.step)⟩
 case rest=>
  clear HC2;try clear c1
  try clear p2
  try clear c3
  try clear c3b0
  try clear c4
  try clear c4b0
  try clear c5
  try clear c5b0
  try clear c6
  try clear c6b0
  obtain⟨kq,x3_1,rfl,HA,HJ1,⟨mc1,rfl⟩⟩:=hcut;cases kq with
  |zero=>exact absurd HA.out (by simp[bQ.j0])
  |succ kj1=>
   have H:=HA.out;clear HA;simp only[bQ.j0] at H;by_cases c7:x3_1=true
   ·subst c7
    have H1:(some 1)=some r:=by first|(rw[if_pos rfl] at H;exact H)|rfl
    clear H;have H:=H1;clear H1;obtain rfl:=zKq H;go_wp2;go_ret;exact⟨by first|rfl|(simp;done)|(simp[*];done),by repeat(first|exact Drawn0.refl _|apply Drawn0.step)⟩
   replace c7:=Bool.eq_false_iff.mpr c7;subst c7;have H1:(if a0≥48 then(bQ.j1 kj1 a0 (decide (a0≤57)))else(bQ.j1 kj1 a0 false))=some r:=by first|(rw[if_neg (show ¬ (false=true) by decide)] at H;exact H)|rfl
   clear H;have H:=H1;clear H1;have HC8:=zA H;clear H;go_upto_region 3 with(fail)
   go_cut[18] (fun v18 wc=> ∃ (kq:Nat) (x18_7:Bool),v18= .bool x18_7∧Aside0 (bQ.j1 kq a0 x18_7=some r)∧Aside0 (kq≤kj1)∧Drawn0 w wc)
   case first=>
    have H:=HC8.out;clear HC8;by_cases c9:a0≥48
    ·rw[if_pos c9] at H
     have c9b0:decide (48≤a0)=true:=zFq c9;clear c9;(first|rw[c9b0] |(simp only[i64_w,i32_w];rw[c9b0])|skip)
     have H':=zA H;clear H;go_wp2;go_meet
     case rel=>exact⟨_,(decide (a0≤57)),qF_,H',⟨by have:=HJ1.out;first|omega|exact Nat.le_refl _⟩,by repeat(first|exact Drawn0.refl _|apply Drawn0.step)⟩
    rw[if_neg c9] at H;have c9b0:decide (48≤a0)=false:=zGq c9;clear c9;(first|rw[c9b0] |(simp only[i64_w,i32_w];rw[c9b0])|skip)
    have H':=zA H;clear H;go_wp2;go_meet
    case rel=>exact⟨_,(false),qF_,H',⟨by have:=HJ1.out;first|omega|exact Nat.le_refl _⟩,by repeat(first|exact Drawn0.refl _|apply Drawn0.step)⟩
   case rest=>
    clear HC8;try clear c1
    try clear p2
    try clear c3
    try clear c3b0
    try clear c4
    try clear c4b0
    try clear c5
    try clear c5b0
    try clear c6
    try clear c6b0
    try clear c7
    try clear c9
    try clear c9b0
    try clear p2
    obtain⟨kq,x18_7,rfl,HA,HJ7,⟨mc7,rfl⟩⟩:=hcut;cases kq with
    |zero=>exact absurd HA.out (by simp[bQ.j1])
    |succ kj7=>
     have H:=HA.out;clear HA;simp only[bQ.j1] at H;by_cases c10:x18_7=true
     ·subst c10
      have H1:(some 2)=some r:=by first|(rw[if_pos rfl] at H;exact H)|rfl
      clear H;have H:=H1;clear H1;obtain rfl:=zKq H;go_wp2;go_ret;exact⟨by first|rfl|(simp;done)|(simp[*];done),by repeat(first|exact Drawn0.refl _|apply Drawn0.step)⟩
     replace c10:=Bool.eq_false_iff.mpr c10;subst c10;have H1:(if a0=45 then(some 3)else(some 0))=some r:=by first|(rw[if_neg (show ¬ (false=true) by decide)] at H;exact H)|rfl
     clear H;have H:=H1;clear H1;by_cases c11:a0=45
     ·rw[if_pos c11] at H
      have c11b0:(a0==45)=true:=beq_iff_eq.mpr c11;have c11b1:(a0 != 45)=false:=bne_eq_false_iff_eq.mpr c11;clear c11;obtain rfl:=zKq H;go_wp2;go_ret;exact⟨by first|rfl|(simp;done)|(simp[*];done),by repeat(first|exact Drawn0.refl _|apply Drawn0.step)⟩
     rw[if_neg c11] at H;have c11b0:(a0==45)=false:=beq_eq_false_iff_ne.mpr c11;have c11b1:(a0 != 45)=true:=bne_iff_ne.mpr c11;obtain rfl:=zKq H;go_wp2;go_ret;exact⟨by first|rfl|(simp;done)|(simp[*];done),by repeat(first|exact Drawn0.refl _|apply Drawn0.step)⟩
end Go.Proofs.Ytefhljhpcpajgaa.F
set_option linter.unusedVariables false
set_option linter.unusedSimpArgs false
namespace Go.Proofs.YtefhljhpcpajgaaX
open Go.RowKit
def clsI (r:Int):Int:=if(97≤r∧r≤122)∨(65≤r∧r≤90)then 1 else if 48≤r∧r≤57 then 2 else if r=45 then 3 else 0
def upI (r:Int):Int:=if 97≤r∧r≤122 then r - 32 else r
def mayB (c last:Int):Bool:=c != 0&&(c != 3||last != 3)
def okL:Int→List Int→Bool
  |_,[] =>true
  |last,r::rs=>mayB (clsI r) last&&okL (clsI r) rs
def runes (l:List UInt8):List Int:=l.map fun b=> (b.toNat:Int)
def foldS (s:ByteArray):ByteArray × Int:=
  if s.size < 1∨s.size > 16∨s.data.toList.getLast? =some 45∨okL 3 (runes s.data.toList)=false then(⟨#[]⟩,9)
  else(⟨((runes s.data.toList).map fun r=>UInt8.ofNat (upI r).toNat).toArray⟩,0)
def checkS (s:ByteArray):Int:=if(foldS s).2=0∧(foldS s).1=s then 0 else 9
theorem okL_bad {last r:Int} {rs:List Int} (h:mayB (clsI r) last=false):okL last (r::rs)=false:=by simp[okL,h]
theorem okL_go {last r:Int} {rs:List Int} (h:mayB (clsI r) last=true):okL last (r::rs)=okL (clsI r) rs:=by simp[okL,h]
theorem cls_high {r:Int} (h:128≤r):clsI r=0:=by unfold clsI;rw[if_neg (by omega),if_neg (by omega),if_neg (by omega)]
theorem mayB_zero {last:Int} :mayB 0 last=false:=by simp[mayB]
theorem decode_high' (s:ByteArray) (i:Nat) (h: ¬ (s.get! i).toNat < 128):128≤(Utf8.decode s i).1:=by
  unfold Utf8.decode
  simp only[Nat.add_zero]
  rw[if_neg (by omega)]
  have he:Utf8.runeError=65533:=rfl
  (repeat' split) <;> simp_all <;> omega
theorem size_list (s:ByteArray):s.data.toList.length=s.size:=by rw[Array.length_toList];rfl
theorem runes_length (l:List UInt8):(runes l).length=l.length:=by simp[runes]
theorem runes_drop (s:ByteArray) (i:Nat) (h:i < s.size):(runes s.data.toList).drop i=((s[i]'h).toNat:Int)::(runes s.data.toList).drop (i+1):=by
  rw[List.drop_eq_getElem_cons (by rw[runes_length,size_list];exact h)]
  congr 1
  simp[runes];rfl
theorem runes_take (s:ByteArray) (i:Nat) (h:i < s.size):(runes s.data.toList).take (i+1)=(runes s.data.toList).take i++ [((s[i]'h).toNat:Int)] :=by
  rw[List.take_succ_eq_append_getElem (by rw[runes_length,size_list];exact h)]
  congr 1
  simp[runes];rfl
theorem encode_ascii {n:Int} (h0:0≤n) (h:n < 128):Utf8.encode n=⟨#[UInt8.ofNat n.toNat]⟩:=by
  unfold Utf8.encode
  have hv:Utf8.valid n=true:=by simp[Utf8.valid];omega
  simp only[hv,if_true]
  rw[if_pos (by omega)]
theorem foldl_ascii (ns:List Int) (h: ∀ n ∈ ns,0≤n∧n < 128): ∀ s:ByteArray,ns.foldl (fun r n=>r++Utf8.encode n) s=s++⟨(ns.map fun n=>UInt8.ofNat n.toNat).toArray⟩:=by
  induction ns with
  |nil=>intro s;simp only[List.foldl_nil,List.map_nil];exact(ByteArray.append_empty).symm
  |cons n ns ih=>
    intro s
    obtain⟨h0,h1⟩:=h n List.mem_cons_self
    simp only[List.foldl_cons]
    rw[ih (fun m hm=>h m (List.mem_cons_of_mem _ hm)),encode_ascii h0 h1]
    ext1
    simp[ByteArray.data_append]
theorem runes_ascii (ns:List Int) (h: ∀ n ∈ ns,0≤n∧n < 128):runesBytes ns=⟨(ns.map fun n=>UInt8.ofNat n.toNat).toArray⟩:=by
  unfold runesBytes
  rw[foldl_ascii ns h]
  ext1
  simp[ByteArray.data_append]
end Go.Proofs.YtefhljhpcpajgaaX
set_option linter.unusedVariables false
namespace Go.Proofs
open Go.Shelf
def Try.laysSlF20_f155_ren:Go.Shelf.Ren:=⟨fun|20=>155|n=>n,fun|24=>3|22=>22|3=>3|25=>155|4=>4|0=>0|n=>n,fun|n=>n⟩
theorem Try.laysSlF20_f155:Go.Proofs.SlLaysF.n20 Try.prog Try.laysSlF20_f155_ren:= {
  mixed:=by kernel_rfl
  f20:=⟨Try.f155.name,by decide,Try.func155.trans (congrArg some (by kernel_rfl))⟩
  t0:=Try.underlying0
  a0:=Try.isAgg0
  z0:=Try.sizeOf0
  v0:=Try.zeroValue0
  t3:=Try.underlying3
  a3:=Try.isAgg3
  z3:=Try.sizeOf3
  v3:=Try.zeroValue3
  t4:=Try.underlying4
  a4:=Try.isAgg4
  z4:=Try.sizeOf4
  v4:=Try.zeroValue4
  t22:=Try.underlying22
  a22:=Try.isAgg22
  z22:=Try.sizeOf22
  v22:=Try.zeroValue22
  a24:=Try.isAgg3
  z24:=Try.sizeOf3
  t25:=Try.underlying155
  a25:=Try.isAgg155
  z25:=Try.sizeOf155
  v25:=Try.zeroValue155 }
open Go.RowKit Go.Lib Go.Sort in
theorem Try.insertionSortCmpFunc_s {α:Type} [Inhabited α] (enc:α→Value) (cf:α→α→Int) (g:Nat) (cb:Array Value) (blk off cap a b:Nat) (d0 d:Array α) (w0 w:World) (eg: ∀ args w,(callFunc g args).run Try.prog w= .ok (.enter g args) w) (hcmp:CmpLays1 Try.prog g cb enc cf blk off d0.size w0) (R:Row1 enc w0 blk off d0) (hs:d0.size=d.size) (S:SW enc w0 blk off d w) (hab:a≤b) (hb:b≤d.size) (hsz:d.size < 4611686018427387904):
    Calls Try.prog 155 #[.slice (some ⟨blk,off,none⟩) d.size cap,.int .i64 a,.int .i64 b,.func (.func g) #[] cb] w fun e w'=>e= .returned (.tuple #[])∧SW enc w0 blk off (Sort.insertionSort (ltOf cf) d a b) w':=Any.insertionSortCmpFunc_s Try.laysSlF20_f155 enc cf g cb blk off cap a b d0 d w0 w eg hcmp R hs S hab hb hsz
def Try.lays100_ren:Go.Shelf.Ren:=⟨fun|100=>158|207=>164|n=>n,fun|9=>9|4=>4|3=>3|n=>n,fun|n=>n⟩
theorem Try.lays100:Go.Proofs.Lays.n100 Try.prog Try.lays100_ren:= {
  mixed:=by kernel_rfl
  f100:=Try.func158.trans (congrArg some (by kernel_rfl))
  f207:=Try.func164.trans (congrArg some (by kernel_rfl))
  t3:=Try.underlying3
  a3:=Try.isAgg3
  z3:=Try.sizeOf3
  v3:=Try.zeroValue3
  t4:=Try.underlying4
  a4:=Try.isAgg4
  z4:=Try.sizeOf4
  v4:=Try.zeroValue4
  t9:=Try.underlying9
  a9:=Try.isAgg9
  z9:=Try.sizeOf9
  v9:=Try.zeroValue9 }
open Go.RowKit Go.Lib in
theorem Try.strings_HasSuffix (s p:ByteArray) (w:World) (hs:s.size≤9223372036854775807):
    Calls Try.prog 158 #[.string s,.string p] w fun e w'=>e= .returned (.bool (Lib.hasSuffix s.data.toList p.data.toList))∧w'=w:=Any.strings_HasSuffix Try.lays100 s p w hs
def Try.lays195_ren:Go.Shelf.Ren:=⟨fun|195=>157|n=>n,fun|9=>9|3=>3|0=>0|4=>4|n=>n,fun|n=>n⟩
theorem Try.lays195:Go.Proofs.Lays.n195 Try.prog Try.lays195_ren:= {
  mixed:=by kernel_rfl
  f195:=Try.func157.trans (congrArg some (by kernel_rfl))
  t0:=Try.underlying0
  a0:=Try.isAgg0
  z0:=Try.sizeOf0
  v0:=Try.zeroValue0
  t3:=Try.underlying3
  a3:=Try.isAgg3
  z3:=Try.sizeOf3
  v3:=Try.zeroValue3
  t4:=Try.underlying4
  a4:=Try.isAgg4
  z4:=Try.sizeOf4
  v4:=Try.zeroValue4
  t9:=Try.underlying9
  a9:=Try.isAgg9
  z9:=Try.sizeOf9
  v9:=Try.zeroValue9 }
open Go.RowKit in
theorem Try.utf8_RuneCountInString (s:ByteArray) (w:World) (hs:s.size < 9223372036854775807):
    Calls Try.prog 157 #[.string s] w fun e w'=>e= .returned (.int .i64 (Lib.runeCount s))∧∃ pos,w'=w.iter s pos:=Any.utf8_RuneCountInString Try.lays195 s w hs
end Go.Proofs
namespace Go.Proofs.Ytefhljhpcpajgaa.F
open Go.RowKit Go.Proofs.YtefhljhpcpajgaaX Go.Proofs.YtefhljhpcpajgaaW.PrintWords Go.Proofs.YtefhljhpcpajgaaW.PrintLast Go.Proofs.YtefhljhpcpajgaaW.PrintMore
attribute [local go_sem] max2_int min2_int max_two min_two max_three min_three max_four min_four
attribute [local go_sem high] str_geq str_leq str_gtr
set_option linter.unusedVariables false
set_option linter.unusedSimpArgs false
theorem stands1 (k:Nat) (r c last:Int) (b:Nat) (w:World) (hc:bQ.f k r=some c) (hb:w.heap[b]? =some (.cells #[.int .i64 last] 3 (0,0))):
  Calls Try.prog 165 #[.int .i32 r,.pointer (some ⟨b,0,none⟩)] w fun e w'=>e= .returned (.bool (mayB c last))∧∃ n,w'=(w.drewN n).setCell ⟨b,0,none⟩ (.int .i64 c):=by
 have HC:=zA hc
 have h0:w.cell? ⟨b,0,none⟩=some (.int .i64 last):=by simp[World.cell?,hb]
 have hf:w.frozen? ⟨b,0,none⟩=false:=by simp[World.frozen?,hb]
 clear hc hb
 by_cases c0:c=0
 ·subst c0
  go_enter Try.func165,Try.ntmps165;go_wp2_with (go_at_call 166;refine(bQ.calls k _ _ _ HC.out).mono ?_;rintro e w' ⟨rfl,⟨nd,rfl⟩⟩);go_ret;exact⟨by simp[mayB],nd,by simp⟩
 have e0:(c != 0)=true:=bne_iff_ne.2 c0
 by_cases c3:c=3
 ·subst c3
  clear c0 e0;by_cases l3:last=3
  ·subst l3
   go_enter Try.func165,Try.ntmps165;go_wp2_with (go_at_call 166;refine(bQ.calls k _ _ _ HC.out).mono ?_;rintro e w' ⟨rfl,⟨nd,rfl⟩⟩);go_ret;exact⟨by simp[mayB],nd,by simp⟩
  have e1:(last != 3)=true:=bne_iff_ne.2 l3;clear l3;go_enter Try.func165,Try.ntmps165;go_wp2_with (go_at_call 166;refine(bQ.calls k _ _ _ HC.out).mono ?_;rintro e w' ⟨rfl,⟨nd,rfl⟩⟩);go_ret;exact⟨by simp[mayB,e1],nd,by simp⟩
 have e1:(c != 3)=true:=bne_iff_ne.2 c3
 clear c0 c3
 go_enter Try.func165,Try.ntmps165
 go_wp2_with (go_at_call 166;refine(bQ.calls k _ _ _ HC.out).mono ?_;rintro e w' ⟨rfl,⟨nd,rfl⟩⟩)
 go_ret
 exact⟨by simp[mayB,e0,e1],nd,by simp⟩
theorem runeCount_pos (s:ByteArray) (h:0 < s.size):1≤Lib.runeCount s:=by
  unfold Lib.runeCount
  obtain⟨n,hn⟩: ∃ n,s.size=n+1:=⟨s.size - 1,by omega⟩
  rw[hn]
  unfold Lib.runeCountFrom
  rw[if_pos h];omega
theorem runeCount_step {s:ByteArray} {i:Nat} (h:Lib.runeCountFrom s (s.size - i) i+i=Lib.runeCount s) (hp:i < s.size) (ha:(s[i]'hp).toNat < 128):Lib.runeCountFrom s (s.size - (i+1)) (i+1)+(i+1)=Lib.runeCount s:=by
  rw[show s.size - i=(s.size - (i+1))+1 by omega] at h
  have h2:Lib.runeCountFrom s (s.size - (i+1)+1) i=1+Lib.runeCountFrom s (s.size - (i+1)) (i+1):=by
    rw[Lib.runeCountFrom,if_pos hp,decode_ascii s i hp ha]
  rw[h2] at h
  omega
theorem suffix_last {l:List UInt8} :Lib.hasSuffix l [45] =true↔l.getLast? =some 45:=by
  unfold Lib.hasSuffix
  rw[List.isSuffixOf_iff_suffix]
  constructor
  · rintro⟨t,rfl⟩;simp
  intro h
  rw[List.getLast?_eq_some_iff] at h
  obtain⟨t,rfl⟩:=h
  exact⟨t,rfl⟩
theorem runeCount_ascii (s:ByteArray) (h: ∀ i (hi:i < s.size),(s[i]'hi).toNat < 128): ∀ (d b pos:Nat),s.size - pos=d→pos≤s.size→d≤b→Lib.runeCountFrom s b pos=d:=by
  intro d
  induction d with
  |zero=>
    intro b pos hd hp hb
    exact Lib.runeCountFrom_end s b pos (by omega)
  |succ d ih=>
    intro b pos hd hp hb
    obtain⟨b,rfl⟩: ∃ c,b=c+1:=⟨b - 1,by omega⟩
    have hlt:pos < s.size:=by omega
    unfold Lib.runeCountFrom
    rw[if_pos hlt,decode_ascii s pos hlt (h pos hlt)]
    show 1+Lib.runeCountFrom s b (pos+1)=d+1
    rw[ih b (pos+1) (by omega) (by omega) (by omega)]
    omega
theorem okL_all (l:List Int): ∀ last,okL last l=true→∀ r ∈ l,r < 128:=by
  induction l with
  |nil=>intro _ _ r h;cases h
  |cons a l ih=>
    intro last h r hr
    simp only[okL,Bool.and_eq_true] at h
    rcases List.mem_cons.1 hr with rfl|hr
    · apply Classical.byContradiction
      intro hn
      rw[cls_high (by omega),mayB_zero] at h
      exact absurd h.1 (by decide)
    exact ih _ h.2 r hr
theorem okL_size {s:ByteArray} (h:okL 3 (runes s.data.toList)=true):Lib.runeCount s=s.size:=by
  unfold Lib.runeCount
  refine runeCount_ascii s (fun i hi=>?_) s.size s.size 0 (by omega) (by omega) (Nat.le_refl _)
  have:=okL_all _ _ h (((s[i]'hi).toNat:Nat):Int) (List.mem_map.2 ⟨s[i]'hi,?_,rfl⟩)
  · omega
  rw[List.mem_iff_getElem]
  exact⟨i,by rw[size_list];exact hi,rfl⟩
theorem own_keep {k:IntKind} {e base:Nat} {ok:Nat→Prop} {w w1:World} {v:Value} {xs:List Int} (h:Kd.R (Kd.int k) e w base ok v xs) (hk: ∀ g,v.ownBlock=some g→w1.heap[g]? =w.heap[g]?):Kd.R (Kd.int k) e w1 base ok v xs:=by
  obtain⟨h0,inner,ho,hr⟩:=h
  refine⟨h0,inner,⟨ho.1,?_⟩,hr⟩
  rcases ho.2 with hn|⟨g,cap,cur,hv,hb,hg,rest⟩
  · exact .inl hn
  exact .inr ⟨g,cap,cur,hv,hb,(hk g (by rw[hv];rfl)).trans hg,rest⟩
theorem infoRune:(Try.prog.info? 21).map (fun i=> (i.zero,i.size,i.bytes))=some (some (.int .i32 0),1,4):=by kernel_rfl
theorem class_f (r:Int):bQ.f 20 r=some (clsI r):=by
  unfold bQ.f clsI
  simp only[bQ.j0,bQ.j1]
  (repeat' split) <;> simp_all <;> omega
theorem folded_f {r:Int} (h0:0≤r) (h:r < 128):dC.f r=some (upI r):=by
  unfold dC.f upI wrap32
  (repeat' split) <;> simp_all <;> omega
theorem stands_made (w:World):Calls Try.prog 159 #[] w fun e w'=>e= .returned (.func (.func 165) #[] #[.pointer (some ⟨w.heap.size,0,none⟩)])∧w'=w.alloc (.cells #[.int .i64 3] 3):=by
 have hmf: ∀ (fn:Fn) (first cap:Array Value) (w:World),(Instr.makeFunc fn first cap).run Try.prog w= .ok (.func fn first cap) w:=fun _ _ _ _=>rfl
 go_enter Try.func159,Try.ntmps159
 go_wp2
 go_ret
 exact⟨rfl,rfl⟩
def cX.f (s:ByteArray):Option (ByteArray × Int):=if s.size < 9223372036854775807 then some (foldS s)else none
theorem cX.calls (s:ByteArray) (r1:ByteArray) (r2:Int) (w:World) (h:cX.f s=some (r1,r2)):
  Calls Try.prog 150 #[.string s] w fun e w'=>e= .returned (.tuple #[.string r1,.int .i64 r2])∧Below w.heap.size w w':=by
 unfold cX.f at h
 by_cases hs:s.size < 9223372036854775807
 ·rw[if_pos hs] at h
  have H:=zA (zKq h);have HS:=zA hs;clear h;have hrc:=Lib.runeCount_le s;by_cases hbad:Lib.runeCount s < 1∨16 < Lib.runeCount s
  ·have hr:foldS s=(⟨#[]⟩,9):=by
    unfold foldS
    by_cases hok:okL 3 (runes s.data.toList)=false
    ·rw[if_pos (.inr (.inr (.inr hok)))]
    rcases hbad with hb|hb
    ·by_cases h0:s.size < 1
     ·rw[if_pos (.inl h0)]
     exact absurd (runeCount_pos s (by omega)) (by omega)
    rw[if_pos (.inr (.inl (by omega)))]
   have hH:=H.out;rw[hr] at hH;simp only[zOq] at hH;obtain⟨rfl,rfl⟩:=hH;rcases hbad with hb|hb
   ·have t1:decide ((Lib.runeCount s:Int) < 1)=true:=zFq (by omega)
    clear hb hs;go_enter Try.func150,Try.ntmps150;go_wp2_with (first
     |(go_at_call 157;refine(Try.utf8_RuneCountInString _ _ (by have:=HS.out;omega)).mono ?_;rintro e w1 ⟨rfl,⟨pos,rfl⟩⟩))
    go_ret2;exact⟨rfl,zD (Below.refl _ _) _⟩
   have t1:decide ((Lib.runeCount s:Int) < 1)=false:=zGq (by omega);have t2:decide (16 < (Lib.runeCount s:Int))=true:=zFq (by omega);clear hb hs;go_enter Try.func150,Try.ntmps150;go_wp2_with (first
    |(go_at_call 157;refine(Try.utf8_RuneCountInString _ _ (by have:=HS.out;omega)).mono ?_;rintro e w1 ⟨rfl,⟨pos,rfl⟩⟩))
   go_ret2;exact⟨rfl,zD (Below.refl _ _) _⟩
  have t1:decide ((Lib.runeCount s:Int) < 1)=false:=zGq (by omega);have t2:decide (16 < (Lib.runeCount s:Int))=false:=zGq (by omega);by_cases hsuf:Lib.hasSuffix s.data.toList [45] =true
  ·have hr:foldS s=(⟨#[]⟩,9):=by
    unfold foldS
    rw[if_pos (.inr (.inr (.inl (suffix_last.1 hsuf))))]
   have hH:=H.out;rw[hr] at hH;simp only[zOq] at hH;obtain⟨rfl,rfl⟩:=hH;have HSf:=zA hsuf;clear hs hbad hsuf hr hrc;go_enter Try.func150,Try.ntmps150;go_wp2_with (first
    |(go_at_call 157;refine(Try.utf8_RuneCountInString _ _ (by have:=HS.out;omega)).mono ?_;rintro e w1 ⟨rfl,⟨pos,rfl⟩⟩)
    |(go_at_call 158;refine(Try.strings_HasSuffix _ _ _ (by have:=HS.out;omega)).mono ?_;rintro e w2 ⟨rfl,rfl⟩;rw[show Lib.hasSuffix s.data.toList (ByteArray.mk #[45]).data.toList=true from HSf.out]))
   go_ret2;exact⟨rfl,zD (Below.refl _ _) _⟩
  have HSf:=zA (Bool.eq_false_iff.2 hsuf);have HN:=zA (show 1≤Lib.runeCount s∧Lib.runeCount s≤16 by omega);have hmk: ∀ W,(Instr.makeSlice 177 (.int .i64 0) (.int .i64 (Lib.runeCount s:Int))).run Try.prog W= .ok (.slice (some ⟨W.heap.size,0,none⟩) 0 (Lib.runeCount s)) (W.alloc (.cells (madeCells (Value.int .i32 0).cells (Lib.runeCount s)) 21)):=by
   intro W;obtain⟨i0,hi,hzz⟩:=Option.map_eq_some_iff.1 infoRune;simp only[zOq] at hzz;have:=run_makeSlice (P:=Try.prog) W 177 21 i0 (.int .i32 0) Try.underlying177 hi hzz.1 .i64 .i64 0 (Lib.runeCount s) (by omega) (by omega) (by rw[hzz.2.1];simp;omega) (by rw[hzz.2.2];omega) (by omega);rw[hzz.2.1] at this;simpa using this
  clear hs hbad hsuf hrc;go_enter Try.func150,Try.ntmps150;go_wp2_with (first
   |(go_at_call 157;refine(Try.utf8_RuneCountInString _ _ (by have:=HS.out;omega)).mono ?_;rintro e w1 ⟨rfl,⟨pos,rfl⟩⟩)
   |(go_at_call 158;refine(Try.strings_HasSuffix _ _ _ (by have:=HS.out;omega)).mono ?_;rintro e w2 ⟨rfl,rfl⟩;rw[show Lib.hasSuffix s.data.toList (ByteArray.mk #[45]).data.toList=false from HSf.out])
   |(go_at_call 159;refine(stands_made _).mono ?_;rintro e w2 ⟨rfl,rfl⟩))
  obtain⟨W0,hW0⟩: ∃ W0,W0=w.iter s pos:=⟨_,rfl⟩
  rw[←hW0];have HB0:=zA (show Below w.heap.size w W0 by rw[hW0];exact zD (Below.refl _ _) _);clear hW0;clear hmk t1 t2;go_loopw [6] (fun v6 wr=> ∃ (i:Nat) (last:Int),i≤s.size∧Aside0 (Kd.R (Kd.int .i32) 21 wr W0.heap.size (fun k=>k≠W0.heap.size∧k≠W0.heap.size+1+1) v6 (((runes s.data.toList).take i).map upI))∧Aside0 (wr.heap[W0.heap.size+1+1]? =some (.stringIter s i))∧Aside0 (wr.heap[W0.heap.size]? =some (.cells #[.int .i64 last] 3 (0,0)))∧Aside0 (okL 3 (runes s.data.toList)=okL last ((runes s.data.toList).drop i))∧Aside0 (Below W0.heap.size W0 wr)∧Aside0 (Lib.runeCountFrom s (s.size - i) i+i=Lib.runeCount s)) (fun _ wr=>s.size - wr.iterPos (W0.heap.size+1+1))
  case atStart=>
   refine⟨0,3,by omega,⟨?_⟩,⟨?_⟩,⟨?_⟩,⟨rfl⟩,⟨?_⟩,⟨rfl⟩⟩
   ·refine own_keep (w:=(W0.alloc (.cells #[.int .i64 3] 3)).alloc (.cells (madeCells (Value.int .i32 0).cells (Lib.runeCount s)) 21)) ⟨fun k hk=>?_,[],?_,Reps.none _ _⟩ (fun g hg=>?_)
    ·simp only[Value.ownBlock,zNq] at hk
     omega
    ·have:=World.ownsRow_made (e:=21) (size:=(Kd.int .i32).sz) (base:=W0.heap.size) (W0.alloc (.cells #[.int .i64 3] 3)) (madeCells (Value.int .i32 0).cells (Lib.runeCount s)) (Lib.runeCount s) (by simp) (by unfold maxLen;have:=HN.out;omega) (by rw[size_madeCells];exact(Nat.mul_one _).symm)
     simpa using this
    simp only[Value.ownBlock,zNq] at hg;subst hg;exact Below.heap_alloc _ _ _ (by simp)
   ·have:=World.iter_heap ((W0.alloc (.cells #[.int .i64 3] 3)).alloc (.cells (madeCells (Value.int .i32 0).cells (Lib.runeCount s)) 21)) s 0
    have e:((W0.alloc (.cells #[.int .i64 3] 3)).alloc (.cells (madeCells (Value.int .i32 0).cells (Lib.runeCount s)) 21)).heap.size=W0.heap.size+1+1:=by simp
    rw[e] at this;exact this
   ·exact zZ (zZ (blk_new _ _) _) _
   exact zD (zD (zD (Below.refl _ _) _) _) _
  case round=>
   obtain⟨i,last,hi,HO,HI,HL,HK,HB,HRC⟩:=hrel;have hlt2:W0.heap.size+1+1 < wr.heap.size:=blk_lt HI.out;by_cases hp:i < s.size
   ·have hd:=runes_drop s i hp
    by_cases ha:(s[i]'hp).toNat < 128
    ·obtain⟨Wn,hWn⟩: ∃ Wn,Wn=wr.iterAt (W0.heap.size+1+1) s (i+1):=⟨_,rfl⟩
     have hnx: ∀ ty,(Instr.next (.pointer (some ⟨W0.heap.size+1+1,0,none⟩)) true ty).run Try.prog wr= .ok (.tuple #[.bool true,.int .i64 i,.int .i32 (s[i]'hp).toNat]) Wn:=fun ty=>by rw[hWn];exact Lib.run_next_ascii_at wr _ s i ty HI.out hp ha
     have HI1:=zA (show Wn.heap[W0.heap.size+1+1]? =some (.stringIter s (i+1)) by rw[hWn];exact Lib.iterAt_heap wr _ s i (i+1) HI.out);have HL1:=zA (show Wn.heap[W0.heap.size]? =some (.cells #[.int .i64 last] 3 (0,0)) by rw[hWn,Lib.iterAt_other _ _ _ _ _ (by omega)];exact HL.out);have HB1:=zA (show Below W0.heap.size W0 Wn by rw[hWn];exact Lib.below_iterAt HB.out (by omega) s (i+1));have HO1:=zA (show Kd.R (Kd.int .i32) 21 Wn W0.heap.size (fun k=>k≠W0.heap.size∧k≠W0.heap.size+1+1) u6 (((runes s.data.toList).take i).map upI) by rw[hWn];exact own_keep HO.out (fun g hg=>Lib.iterAt_other _ _ _ _ _ (HO.out.1 g hg).2));clear hWn;obtain⟨r,hr⟩: ∃ r:Int,r=((s[i]'hp).toNat:Int):=⟨_,rfl⟩
     rw[←hr] at hd hnx;have hr0:0≤r∧r < 128:=by omega
     have HK2:=zA (HK.out.trans (congrArg (okL last) hd));have HR:=zA hr0;have HT:=zA (show(runes s.data.toList).take (i+1)=(runes s.data.toList).take i++ [r] by rw[hr];exact runes_take s i hp);have HP:=zA hp;clear hd hr hr0;cases hm:mayB (clsI r) last with
     |false=>
      have hH:=H.out;have hf:foldS s=(⟨#[]⟩,9):=by
       unfold foldS
       rw[if_pos (.inr (.inr (.inr (HK2.out.trans (okL_bad hm)))))]
      rw[hf] at hH;simp only[zOq] at hH;obtain⟨rfl,rfl⟩:=hH;have HM:=zA hm;clear hm hf;go_wp2_with (first
       |(go_at_call 165;refine(stands1 20 r (clsI r) last W0.heap.size _ (class_f _) HL1.out).mono ?_;rintro e w2 ⟨rfl,⟨nd,rfl⟩⟩;rw[HM.out]))
      go_ret2;exact⟨rfl,below_then HB0.out HB0.out.size (Below.setCell (zB HB1.out _) (Nat.le_refl _) _)⟩
     |true=>
      have HM:=zA hm;clear hm;have HL3:Aside0 ((((runes s.data.toList).take i).map upI).length≤i):=⟨by simp;omega⟩
      have HSM:=zA (show i < 1099511627776 by have:=HRC.out;have:=HN.out;omega);have HRC2:=zA (show Lib.runeCountFrom s (s.size - (i+1)) (i+1)+(i+1)=Lib.runeCount s from runeCount_step HRC.out hp ha);go_wp2_with (first
       |(go_at_call 165;refine(stands1 20 r (clsI r) last W0.heap.size _ (class_f _) HL1.out).mono ?_;rintro e w2 ⟨rfl,⟨nd,hw2⟩⟩;rw[HM.out];have HI2:=zA (show w2.heap[W0.heap.size+1+1]? =some (.stringIter s (i+1)) by rw[hw2,Below.heap_setCell _ _ _ _ (show W0.heap.size+1+1≠W0.heap.size by omega)];exact HI1.out);have HL2:=zA (show w2.heap[W0.heap.size]? =some (.cells #[.int .i64 (clsI r)] 3 (0,0)) by rw[hw2];exact blk_put (zY HL1.out nd) 0 _ rfl);have HB2:=zA (show Below W0.heap.size W0 w2 by rw[hw2];exact Below.setCell (zB HB1.out _) (Nat.le_refl _) _);have HO2:=zA (own_keep (w1:=w2) HO1.out (fun g hg=>by rw[hw2,Below.heap_setCell _ _ _ _ (HO1.out.1 g hg).1];rfl));clear hw2)
       |(go_at_call 160;refine(dC.calls r (upI r) _ (folded_f HR.out.1 HR.out.2)).mono ?_;rintro e w3 ⟨rfl,⟨nd2,rfl⟩⟩)
       |(at_builtin;refine Kd.R_append (Kd.int .i32) (w0:=W0) W0.heap.size rfl (.tmp 33) (.tmp 36) 177 21 (.int .i32 0) 4 rfl Try.underlying177 infoRune rfl (by decide) (by omega) _ (((runes s.data.toList).take i).map upI) (upI r) [.int .i32 (upI r)] (fun k=>k≠W0.heap.size∧k≠W0.heap.size+1+1) (fun _=>False) rfl rfl ?aP (fun _ hk=>hk.elim) ?aF ?aO ?aB ?aS ?aL ?_;(case aP=>exact rfl);(case aB=>exact zB HB2.out _);(case aF=>exact(fun k hk=>by have h1:=blk_lt HI2.out;have h2:w2.heap.size≤k:=hk;omega));(case aO=>exact own_keep HO2.out (fun _ _=>rfl));(case aS=>exact HB2.out.size);(case aL=>have:=HL3.out;have:=HSM.out;omega);intro v1 w4 ho hb hg hat;have HO4:=zA ho;have HB4:=zA hb;have HI4:=zA (blk_grown (zY HI2.out nd2) hg (fun e=> (HO2.out.1 _ e.symm).2 rfl));have HL4:=zA (blk_grown (zY HL2.out nd2) hg (fun e=> (HO2.out.1 _ e.symm).1 rfl));clear ho hb hg hat))
      go_roundw
      case rel=>
       refine⟨i+1,clsI r,by have:=HP.out;omega,⟨?_⟩,HI4,HL4,⟨HK2.out.trans (okL_go HM.out)⟩,HB4,HRC2⟩;have:=HO4.out;rw[HT.out,List.map_append];exact this
      case measure=>
       have h1: ∀ (W:World) (p:Nat),W.heap[W0.heap.size+1+1]? =some (.stringIter s p)→W.iterPos (W0.heap.size+1+1)=p:=fun W p h=>by unfold World.iterPos;rw[h]
       rw[h1 _ _ HI4.out,h1 _ _ HI.out];have:=HP.out;omega
    obtain⟨Wn,hWn⟩: ∃ Wn,Wn=wr.iterAt (W0.heap.size+1+1) s (i+(Utf8.decode s i).2):=⟨_,rfl⟩
    have hnx: ∀ ty,(Instr.next (.pointer (some ⟨W0.heap.size+1+1,0,none⟩)) true ty).run Try.prog wr= .ok (.tuple #[.bool true,.int .i64 i,.int .i32 (Utf8.decode s i).1]) Wn:=fun ty=>by rw[hWn];exact Lib.run_next_any_at wr _ s i ty HI.out hp
    have HL1:=zA (show Wn.heap[W0.heap.size]? =some (.cells #[.int .i64 last] 3 (0,0)) by rw[hWn,Lib.iterAt_other _ _ _ _ _ (by omega)];exact HL.out);have HB1:=zA (show Below W0.heap.size W0 Wn by rw[hWn];exact Lib.below_iterAt HB.out (by omega) s _);clear hWn;have hg:s.get! i=s[i]'hp:=by simp[ByteArray.get!,hp];rfl
    have hhi:=decode_high' s i (by rw[hg];exact ha);obtain⟨r,hr⟩: ∃ r:Int,r=((Utf8.decode s i).1:Int):=⟨_,rfl⟩
    rw[←hr] at hnx;have hc0:clsI r=0:=cls_high (by omega);have hH:=H.out;have hf:foldS s=(⟨#[]⟩,9):=by
     unfold foldS
     exact if_pos (.inr (.inr (.inr (by rw[HK.out,hd];exact okL_bad (by rw[cls_high (by omega)];rfl)))))
    rw[hf] at hH;simp only[zOq] at hH;obtain⟨rfl,rfl⟩:=hH;have HC0:=zA (show bQ.f 20 r=some 0 by rw[class_f,hc0]);clear hhi hr hf hd hg hc0;go_wp2_with (first
     |(go_at_call 165;refine(stands1 20 r 0 last W0.heap.size _ HC0.out HL1.out).mono ?_;rintro e w2 ⟨rfl,⟨nd,rfl⟩⟩;rw[show mayB 0 last=false from mayB_zero]))
    go_ret2;exact⟨rfl,below_then HB0.out HB0.out.size (Below.setCell (zB HB1.out _) (Nat.le_refl _) _)⟩
   have hnx: ∀ ty,(Instr.next (.pointer (some ⟨W0.heap.size+1+1,0,none⟩)) true ty).run Try.prog wr= .ok (.tuple #[.bool false]) wr:=fun ty=>Lib.run_next_end_at wr _ s i ty HI.out hp
   have hi':i=s.size:=by omega
   subst hi';have hok:okL 3 (runes s.data.toList)=true:=by
    rw[HK.out,List.drop_eq_nil_of_le (by rw[runes_length,size_list];exact Nat.le_refl _)];rfl
   have hsz:=okL_size hok;have hN:=HN.out;have hf:foldS s=(⟨((runes s.data.toList).map fun r=>UInt8.ofNat (upI r).toNat).toArray⟩,0):=by
    unfold foldS
    rw[if_neg];rintro(h|h|h|h)
    ·omega
    ·omega
    ·rw[←suffix_last,HSf.out] at h;cases h
    rw[hok] at h;cases h
   have hH:=H.out;rw[hf] at hH;simp only[zOq] at hH;obtain⟨hH1,rfl⟩:=hH;have hrb:runesBytes ((runes s.data.toList).map upI)=r1:=by
    rw[←hH1,runes_ascii]
    ·rw[List.map_map];rfl
    intro n hn;obtain⟨m,hm,rfl⟩:=List.mem_map.1 hn;have h1:=okL_all _ _ hok m hm;obtain⟨b,_,rfl⟩:=List.mem_map.1 hm;unfold upI
    split <;> omega
   have hcv: ∃ A l c,u6= .slice A l c∧(convert 177 9 (.slice A l c)).run Try.prog wr= .ok (.string r1) wr:=by
    have hO:=HO.out;rw[List.take_of_length_le (by rw[runes_length,size_list];exact Nat.le_refl _)] at hO;obtain⟨A,c,rfl⟩:=Kd.R_slice hO;refine⟨A,_,c,rfl,?_⟩;obtain⟨h1,h2,h3⟩:=Kd.R_reads' hO;have hl:0 < ((runes s.data.toList).map upI).length:=by rw[List.length_map,runes_length,size_list];omega
    obtain⟨ad,e1,_⟩:=Kd.at_int h3 (0:Int) (by omega) (by omega);subst e1;have:=run_convert_runes (P:=Try.prog) wr 177 9 21 ad ((runes s.data.toList).map upI).length c ((runes s.data.toList).map upI) (Nat.le_refl _) Try.underlying177 Try.underlying21 Try.underlying9 (fun j hj=>by
     obtain⟨ad2,e2,hx⟩:=Kd.at_int h3 (j:Int) (by omega) (by omega);cases e2
     rw[Int.toNat_natCast] at hx;rw[hx];rfl)
    rw[List.take_length,hrb] at this;exact this
   obtain⟨A,l,c,rfl,hcv⟩:=hcv;have HCV:=zA hcv;clear hf hrb hH1 hok hsz hN hcv;have hcv2:=HCV.out;go_wp2;go_ret2;exact⟨rfl,below_then HB0.out HB0.out.size HB.out⟩
 rw[if_neg hs] at h;cases h
def cV.f (a0:ByteArray):Option (Int):=(cX.f a0).bind fun bt101=> (if bt101.2=0 then(if bt101.1.toList=a0.toList then(some 0)else(some 9))else(some 9))
theorem cV.calls (a0:ByteArray) (r:Int) (w:World) (h:cV.f a0=some r):
  Calls Try.prog 142 #[.string a0] w fun e w'=>e= .returned (.int .i64 r)∧Below w.heap.size w w':=by
 have HB:=zA (Below.refl w.heap.size w)
 have H:((cX.f a0).bind fun bt101=> (if bt101.2=0 then(if bt101.1.toList=a0.toList then(some 0)else(some 9))else(some 9)))=some r:=h
 clear h
 obtain⟨⟨t101,t102⟩,A2,H⟩:=qD_ H
 (try dsimp only at H)
 by_cases c3:t102=0
 ·rw[if_pos c3] at H
  have c3b0:(t102==0)=true:=beq_iff_eq.mpr c3;have c3b1:(t102 != 0)=false:=bne_eq_false_iff_eq.mpr c3;clear c3;by_cases c4:t101.toList=a0.toList
  ·rw[if_pos c4] at H
   have c4b0:(t101.toList==a0.toList)=true:=beq_iff_eq.mpr c4;have c4b1:(t101.toList != a0.toList)=false:=bne_eq_false_iff_eq.mpr c4;clear c4;obtain rfl:=zKq H;go_enter Try.func142,Try.ntmps142;go_wp2_with (first|((with_reducible refine zJq (f:=150) rfl ?_);refine goesL_ (some 7) rfl rfl Try.func150 (by kernel_rfl) rfl #[.string a0] rfl qG ?_;(with_reducible refine(cX.calls a0 t101 t102 _ A2.out).mono ?_);rintro e w5 ⟨rfl,hb⟩;refine⟨_,rfl,?_⟩;replace HB:=zA (zV qB hb);(try clear hb)));go_ret;exact⟨qE,qB⟩
  rw[if_neg c4] at H;have c4b0:(t101.toList==a0.toList)=false:=beq_eq_false_iff_ne.mpr c4;have c4b1:(t101.toList != a0.toList)=true:=bne_iff_ne.mpr c4;obtain rfl:=zKq H;go_enter Try.func142,Try.ntmps142;go_wp2_with (first|((with_reducible refine zJq (f:=150) rfl ?_);refine goesL_ (some 7) rfl rfl Try.func150 (by kernel_rfl) rfl #[.string a0] rfl qG ?_;(with_reducible refine(cX.calls a0 t101 t102 _ A2.out).mono ?_);rintro e w6 ⟨rfl,hb⟩;refine⟨_,rfl,?_⟩;replace HB:=zA (zV qB hb);(try clear hb)));go_ret;exact⟨qE,qB⟩
 rw[if_neg c3] at H
 have c3b0:(t102==0)=false:=beq_eq_false_iff_ne.mpr c3
 have c3b1:(t102 != 0)=true:=bne_iff_ne.mpr c3
 obtain rfl:=zKq H
 go_enter Try.func142,Try.ntmps142
 go_wp2_with (first|((with_reducible refine zJq (f:=150) rfl ?_);refine goesL_ (some 7) rfl rfl Try.func150 (by kernel_rfl) rfl #[.string a0] rfl qG ?_;(with_reducible refine(cX.calls a0 t101 t102 _ A2.out).mono ?_);rintro e w7 ⟨rfl,hb⟩;refine⟨_,rfl,?_⟩;replace HB:=zA (zV qB hb);(try clear hb)))
 go_ret
 exact⟨qE,qB⟩
def bR.l0:Nat→List ByteArray→List ByteArray→Int→Int→Option (Int)
  |0,_,_,_,_=>none
  |k+1,x0,x6,x7,x8=>if x8 < x7 then(if 0≤x8 then(if x8 < (x6.length:Int)then((cV.f (rdOf ByteArray.empty x6 x8)).bind fun t102=> (if t102=0 then(if x8 > 0 then(if 0≤(wrap64 (x8 - 1))then(if(wrap64 (x8 - 1)) < (x0.length:Int)then(if((Op.bytesLess ((rdOf ByteArray.empty x0 (wrap64 (x8 - 1))).toList) ((rdOf ByteArray.empty x6 x8).toList))=true)then(bR.l0 k x0 x6 x7 (wrap64 (x8+1)))else(some 32))else(none))else(none))else(bR.l0 k x0 x6 x7 (wrap64 (x8+1))))else(some t102)))else(none))else(none))else(some 0)
def bR.f (k:Nat) (l0:List ByteArray):Option (Int):=bR.l0 k l0 l0 (l0.length:Int) 0
theorem bR.mono_l: ∀ k,(∀ y0 y1 y2 y3,LeO (bR.l0 k y0 y1 y2 y3) (bR.l0 (k+1) y0 y1 y2 y3))
  |0=>fun _ _ _ _ r h=>by simp[bR.l0] at h
  |k+1=>by
    have ih0:=bR.mono_l k
    intro y0 y1 y2 y3
    unfold bR.l0
    repeat' (with_reducible first|exact ih0 _ _ _ _|exact LeO.refl _|exact LeO.none _|refine LeO.ite ?_ ?_|refine LeO.bind ?_ (fun _=>?_))
theorem bR.mono: ∀ a0 k,LeO (bR.f k a0) (bR.f (k+1) a0):=by
  intro a0 k
  have ih0:=bR.mono_l k
  unfold bR.f
  repeat' (with_reducible first|exact ih0 _ _ _ _|exact LeO.refl _|exact LeO.none _|refine LeO.ite ?_ ?_|refine LeO.bind ?_ (fun _=>?_))
theorem bR.calls (k:Nat) (A0:Option Addr) (c0:Nat) (l0:List ByteArray) (r:Int) (w:World) (hr0:Kd.C Kd.string w A0 l0.length l0) (hc0:l0.length≤c0) (h:bR.f k l0=some r):
  Calls Try.prog 119 #[.slice A0 l0.length c0] w fun e w'=>e= .returned (.int .i64 r)∧Below w.heap.size w w':=by
 have HR0:=zA hr0
 have HC0:=zA hc0
 clear hr0 hc0
 have HB:=zA (Below.refl w.heap.size w)
 have H:(bR.l0 k l0 l0 (l0.length:Int) 0)=some r:=h
 clear h
 have H':=zA H
 clear H
 go_enter Try.func119,Try.ntmps119
 go_wp2
 go_loopg[8] k (fun kq v8 w'=> ∃ (x8_1:Int),v8= .int .i64 x8_1∧Aside0 (bR.l0 kq l0 l0 (l0.length:Int) x8_1=some r)∧Aside0 (kq≤k)∧Aside0 (Below w.heap.size w w'))
 case atStart=>exact⟨(0),qF_,H',⟨Nat.le_refl _⟩,⟨qB⟩⟩
 case round=>
  clear H';try clear c1
  obtain⟨x8_1,rfl,HA,HK1,HB⟩:=hrel;cases gk with
  |zero=>exact absurd HA.out (by simp[bR.l0])
  |succ k1=>
   have H:=HA.out;clear HA;simp only[bR.l0] at H;by_cases c2:x8_1 < (l0.length:Int)
   ·rw[if_pos c2] at H
    have c2b0:=zFq c2;clear c2;by_cases c3:0≤x8_1
    ·rw[if_pos c3] at H
     have c3b0:=zFq c3;clear c3;by_cases c4:x8_1 < (l0.length:Int)
     ·rw[if_pos c4] at H
      have c4b0:=zFq c4;clear c4;obtain⟨t102,A5,H⟩:=qD_ H;(try dsimp only at H);by_cases c6:t102=0
      ·rw[if_pos c6] at H
       have c6b0:(t102==0)=true:=beq_iff_eq.mpr c6;have c6b1:(t102 != 0)=false:=bne_eq_false_iff_eq.mpr c6;clear c6;by_cases c7:x8_1 > 0
       ·rw[if_pos c7] at H
        have c7b0:decide (0 < x8_1)=true:=zFq c7;clear c7;obtain⟨ji8,hji8⟩: ∃ j_:Int,(wrap64 (x8_1 - 1))=j_:=⟨_,rfl⟩
        replace H:(if 0≤(ji8)then(if(ji8) < (l0.length:Int)then(if((Op.bytesLess ((rdOf ByteArray.empty l0 (ji8)).toList) ((rdOf ByteArray.empty l0 x8_1).toList))=true)then(bR.l0 k1 l0 l0 (l0.length:Int) (wrap64 (x8_1+1)))else(some 32))else(none))else(none))=some r:=by first|(rw[hji8] at H;exact H)|(simp only[hji8] at H⊢;exact H)
        (try rw[hji8] at A5)
        have hji8w:(IntKind.i64.wrap (x8_1 - 1))=ji8:=(i64_w _).trans hji8;by_cases c9:0≤(ji8)
        ·rw[if_pos c9] at H
         have c9b0:=zFq c9;clear c9;by_cases c10:(ji8) < (l0.length:Int)
         ·rw[if_pos c10] at H
          have c10b0:=zFq c10;clear c10;by_cases c11:((Op.bytesLess ((rdOf ByteArray.empty l0 (ji8)).toList) ((rdOf ByteArray.empty l0 x8_1).toList))=true)
          ·rw[if_pos c11] at H
           have c11b0:(Op.bytesLess ((rdOf ByteArray.empty l0 (ji8)).toList) ((rdOf ByteArray.empty l0 x8_1).toList))=true:=c11;clear c11;have H':=zA H;clear H;have p101:0≤(x8_1:Int):=qO_;have q101:x8_1 < (l0.length:Int):=qO_;obtain⟨ad101,e101,hx101_0⟩:=Kd.at_string HR0.out x8_1 p101 q101;cases e101
           replace hx101_0:=qU_ hx101_0;replace p101:=eq_true p101;replace q101:=eq_true q101;go_wp2_with (first|((with_reducible refine zJq (f:=142) rfl ?_);refine goesL_ (some 14) rfl rfl Try.func142 (by kernel_rfl) rfl #[.string (rdOf ByteArray.empty l0 x8_1)] rfl qG ?_;(with_reducible refine(cV.calls (rdOf ByteArray.empty l0 x8_1) t102 _ A5.out).mono ?_);rintro e w12 ⟨rfl,hb⟩;refine⟨_,rfl,?_⟩;replace HB:=zA (zV qB hb);(try clear hb);have p103:0≤((ji8):Int):=qO_;have q103:(ji8) < (l0.length:Int):=qO_;obtain⟨ad103,e103,hx103_0⟩:=Kd.at_string HR0.out (ji8) p103 q103;obtain rfl:ad101=ad103:=(by injection e103);replace hx103_0:=qU_ hx103_0;replace p103:=eq_true p103;replace q103:=eq_true q103));go_roundg k1
           case measure=>have:=HK1.out;omega
           case rel=>exact⟨(wrap64 (x8_1+1)),qF_,H',⟨by have:=HK1.out;omega⟩,⟨qB⟩⟩
          rw[if_neg c11] at H;have c11b0:(Op.bytesLess ((rdOf ByteArray.empty l0 (ji8)).toList) ((rdOf ByteArray.empty l0 x8_1).toList))=false:=by simpa using c11
          clear c11;obtain rfl:=zKq H;have p101:0≤(x8_1:Int):=qO_;have q101:x8_1 < (l0.length:Int):=qO_;obtain⟨ad101,e101,hx101_0⟩:=Kd.at_string HR0.out x8_1 p101 q101;cases e101
          replace hx101_0:=qU_ hx101_0;replace p101:=eq_true p101;replace q101:=eq_true q101;go_wp2_with (first|((with_reducible refine zJq (f:=142) rfl ?_);refine goesL_ (some 14) rfl rfl Try.func142 (by kernel_rfl) rfl #[.string (rdOf ByteArray.empty l0 x8_1)] rfl qG ?_;(with_reducible refine(cV.calls (rdOf ByteArray.empty l0 x8_1) t102 _ A5.out).mono ?_);rintro e w13 ⟨rfl,hb⟩;refine⟨_,rfl,?_⟩;replace HB:=zA (zV qB hb);(try clear hb);have p103:0≤((ji8):Int):=qO_;have q103:(ji8) < (l0.length:Int):=qO_;obtain⟨ad103,e103,hx103_0⟩:=Kd.at_string HR0.out (ji8) p103 q103;obtain rfl:ad101=ad103:=(by injection e103);replace hx103_0:=qU_ hx103_0;replace p103:=eq_true p103;replace q103:=eq_true q103));go_ret;exact⟨by first|rfl|(simp[errW_none,errW_some] <;> rfl)|(simp only[←hji8];first|rfl|(simp[errW_none,errW_some] <;> rfl))|(simp[*,errW_none,errW_some] <;> rfl),qB⟩
         rw[if_neg c10] at H;exact absurd H (by simp)
        rw[if_neg c9] at H;exact absurd H (by simp)
       rw[if_neg c7] at H;have c7b0:decide (0 < x8_1)=false:=zGq c7;clear c7;have H':=zA H;clear H;have p101:0≤(x8_1:Int):=qO_;have q101:x8_1 < (l0.length:Int):=qO_;obtain⟨ad101,e101,hx101_0⟩:=Kd.at_string HR0.out x8_1 p101 q101;cases e101
       replace hx101_0:=qU_ hx101_0;replace p101:=eq_true p101;replace q101:=eq_true q101;go_wp2_with (first|((with_reducible refine zJq (f:=142) rfl ?_);refine goesL_ (some 14) rfl rfl Try.func142 (by kernel_rfl) rfl #[.string (rdOf ByteArray.empty l0 x8_1)] rfl qG ?_;(with_reducible refine(cV.calls (rdOf ByteArray.empty l0 x8_1) t102 _ A5.out).mono ?_);rintro e w14 ⟨rfl,hb⟩;refine⟨_,rfl,?_⟩;replace HB:=zA (zV qB hb);(try clear hb)));go_roundg k1
       case measure=>have:=HK1.out;omega
       case rel=>exact⟨(wrap64 (x8_1+1)),qF_,H',⟨by have:=HK1.out;omega⟩,⟨qB⟩⟩
      rw[if_neg c6] at H;have c6b0:(t102==0)=false:=beq_eq_false_iff_ne.mpr c6;have c6b1:(t102 != 0)=true:=bne_iff_ne.mpr c6;obtain rfl:=zKq H;have p101:0≤(x8_1:Int):=qO_;have q101:x8_1 < (l0.length:Int):=qO_;obtain⟨ad101,e101,hx101_0⟩:=Kd.at_string HR0.out x8_1 p101 q101;cases e101
      replace hx101_0:=qU_ hx101_0;replace p101:=eq_true p101;replace q101:=eq_true q101;go_wp2_with (first|((with_reducible refine zJq (f:=142) rfl ?_);refine goesL_ (some 14) rfl rfl Try.func142 (by kernel_rfl) rfl #[.string (rdOf ByteArray.empty l0 x8_1)] rfl qG ?_;(with_reducible refine(cV.calls (rdOf ByteArray.empty l0 x8_1) t102 _ A5.out).mono ?_);rintro e w15 ⟨rfl,hb⟩;refine⟨_,rfl,?_⟩;replace HB:=zA (zV qB hb);(try clear hb)));go_ret;exact⟨qE,qB⟩
     rw[if_neg c4] at H;exact absurd H (by simp)
    rw[if_neg c3] at H;exact absurd H (by simp)
   rw[if_neg c2] at H;have c2b0:=zGq c2;clear c2;obtain rfl:=zKq H;go_wp2;go_ret;exact⟨qE,qB⟩
def bJ.j0:Nat→Bool→Int→Int→Int→Int→List ByteArray→Int→Int→Int→Int→List ByteArray→Option (Int)
  |0,_,_,_,_,_,_,_,_,_,_,_=>none
  |k+1,x6,x102000,x102001,x102002,x102003,x102004,x1000004000,x1000004001,x1000004002,x1000004003,x1000004004=>if x6=true then(some 2)else((cK.f x1000004000 x1000004001 x1000004002 x1000004003 x1000004004).bind fun t102=> (if t102=true then(if(x102004.length:Int) < 1 then(some 9)else(if(x102004.length:Int) > 20 then(some 9)else((bR.f k x102004).bind fun t103=> (if t103=0 then(some 0)else(some 9)))))else(some 8)))
def bJ.f (k:Nat) (a0_0:Int) (a0_1:Int) (a0_2:Int) (a0_3:Int) (l0_4:List ByteArray):Option (Int):=if a0_0 < 1 then(bJ.j0 k true a0_0 a0_1 a0_2 a0_3 l0_4 a0_0 a0_1 a0_2 a0_3 l0_4)else(bJ.j0 k (decide (a0_0 > 999999)) a0_0 a0_1 a0_2 a0_3 l0_4 a0_0 a0_1 a0_2 a0_3 l0_4)
theorem bJ.mono_l: ∀ k,(∀ y0 y1 y2 y3 y4 y5 y6 y7 y8 y9 y10,LeO (bJ.j0 k y0 y1 y2 y3 y4 y5 y6 y7 y8 y9 y10) (bJ.j0 (k+1) y0 y1 y2 y3 y4 y5 y6 y7 y8 y9 y10))
  |0=>fun _ _ _ _ _ _ _ _ _ _ _ r h=>by simp[bJ.j0] at h
  |k+1=>by
    have ih0:=bJ.mono_l k
    intro y0 y1 y2 y3 y4 y5 y6 y7 y8 y9 y10
    unfold bJ.j0
    repeat' (with_reducible first|exact ih0 _ _ _ _ _ _ _ _ _ _ _|exact bR.mono _ _|exact LeO.refl _|exact LeO.none _|refine LeO.ite ?_ ?_|refine LeO.bind ?_ (fun _=>?_))
theorem bJ.mono: ∀ a0 a1 a2 a3 a4 k,LeO (bJ.f k a0 a1 a2 a3 a4) (bJ.f (k+1) a0 a1 a2 a3 a4):=by
  intro a0 a1 a2 a3 a4 k
  have ih0:=bJ.mono_l k
  unfold bJ.f
  repeat' (with_reducible first|exact ih0 _ _ _ _ _ _ _ _ _ _ _|exact bR.mono _ _|exact LeO.refl _|exact LeO.none _|refine LeO.ite ?_ ?_|refine LeO.bind ?_ (fun _=>?_))
theorem bJ.calls (k:Nat) (a0_0:Int) (a0_1:Int) (a0_2:Int) (a0_3:Int) (A0_4:Option Addr) (c0_4:Nat) (l0_4:List ByteArray) (r:Int) (w:World) (hr0_4:Kd.C Kd.string w A0_4 l0_4.length l0_4) (hc0_4:l0_4.length≤c0_4) (h:bJ.f k a0_0 a0_1 a0_2 a0_3 l0_4=some r):
  Calls Try.prog 69 #[.agg #[.int .i64 a0_0,.int .i64 a0_1,.int .i64 a0_2,.int .i64 a0_3,.slice A0_4 l0_4.length c0_4]] w fun e w'=>e= .returned (.int .i64 r)∧Below w.heap.size w w':=by
 have hu71:=Try.underlying71
 have hmf: ∀ (fn:Fn) (first cap:Array Value) (w:World),(Instr.makeFunc fn first cap).run Try.prog w= .ok (.func fn first cap) w:=fun _ _ _ _=>rfl
 have HR0_4:=zA hr0_4
 have HC0_4:=zA hc0_4
 clear hr0_4 hc0_4
 have HB:=zA (Below.refl w.heap.size w)
 have H:(if a0_0 < 1 then(bJ.j0 k true a0_0 a0_1 a0_2 a0_3 l0_4 a0_0 a0_1 a0_2 a0_3 l0_4)else(bJ.j0 k (decide (a0_0 > 999999)) a0_0 a0_1 a0_2 a0_3 l0_4 a0_0 a0_1 a0_2 a0_3 l0_4))=some r:=h
 clear h
 have HC2:=zA H
 clear H
 go_enter Try.func69,Try.ntmps69
 go_upto_region 2 with(first|((with_reducible refine gate_dst (N:=1) rfl ?_);(try(refine gate_guard (by rfl) ?_;dsimp only));refine box_event qr (N:=1) qr (cs:= #[.int .i64 a0_0,.int .i64 a0_1,.int .i64 a0_2,.int .i64 a0_3,.slice A0_4 l0_4.length c0_4]) (t:=71) qg ?_;intro gb101 hg w3 hbox hb;have BK101:=zA (hbox);have GW101:=zA ((qS:w.heap.size≤gb101));have GE101:=zA ((qS:w.heap.size≤gb101));replace HB:=zA (zV qB hb);clear hb hbox hg;obtain⟨_,_,_,_,_,_,_,_,_,_⟩:=qc5f BK101.out))
 (try simp only[Act.put,zH,zI,zJ])
 go_cut[6] (fun v6 wc=> ∃ (kq:Nat) (x6_1:Bool),v6= .bool x6_1∧Aside0 (bJ.j0 kq x6_1 a0_0 a0_1 a0_2 a0_3 l0_4 a0_0 a0_1 a0_2 a0_3 l0_4=some r)∧Aside0 (kq≤k)∧Aside0 (wc.heap[gb101]? =some (.cells #[.int .i64 a0_0,.int .i64 a0_1,.int .i64 a0_2,.int .i64 a0_3,(.slice A0_4 l0_4.length c0_4)] 71 (0,0)))∧Aside0 (Below w.heap.size w wc))
 case first=>
  have H:=HC2.out;clear HC2;by_cases c5:a0_0 < 1
  ·rw[if_pos c5] at H
   have c5b0:=zFq c5;clear c5;(first|rw[c5b0] |(simp only[i64_w,i32_w];rw[c5b0])|skip)
   have H':=zA H;clear H;obtain⟨_,_,_,_,_,_,_,_,_,_⟩:=qc5f BK101.out;go_wp2;go_meet
   case rel=>exact⟨_,(true),qF_,H',⟨by first|omega|exact Nat.le_refl _⟩,⟨by exact BK101.out⟩,⟨qB⟩⟩
  rw[if_neg c5] at H;have c5b0:=zGq c5;clear c5;(first|rw[c5b0] |(simp only[i64_w,i32_w];rw[c5b0])|skip)
  have H':=zA H;clear H;obtain⟨_,_,_,_,_,_,_,_,_,_⟩:=qc5f BK101.out;go_wp2;go_meet
  case rel=>exact⟨_,(decide (a0_0 > 999999)),qF_,H',⟨by first|omega|exact Nat.le_refl _⟩,⟨by exact BK101.out⟩,⟨qB⟩⟩
 case rest=>
  clear HC2;try clear p2
  try clear c5
  try clear c5b0
  try clear c6
  obtain⟨kq,x6_1,rfl,HA,HJ1,BK101,HB⟩:=hcut;cases kq with
  |zero=>exact absurd HA.out (by simp[bJ.j0])
  |succ kj1=>
   have H:=HA.out;clear HA;simp only[bJ.j0] at H;by_cases c8:x6_1=true
   ·subst c8
    have H1:(some 2)=some r:=by first|(rw[if_pos rfl] at H;exact H)|rfl
    clear H;have H:=H1;clear H1;obtain rfl:=zKq H;go_wp2;go_ret;exact⟨qE,qB⟩
   replace c8:=Bool.eq_false_iff.mpr c8;subst c8;have H1:((cK.f a0_0 a0_1 a0_2 a0_3 l0_4).bind fun t102=> (if t102=true then(if(l0_4.length:Int) < 1 then(some 9)else(if(l0_4.length:Int) > 20 then(some 9)else((bR.f kj1 l0_4).bind fun t103=> (if t103=0 then(some 0)else(some 9)))))else(some 8)))=some r:=by first|(rw[if_neg (show ¬ (false=true) by decide)] at H;exact H)|rfl
   clear H;have H:=H1;clear H1;obtain⟨t102,A9,H⟩:=qD_ H;(try dsimp only at H);by_cases c10:t102=true
   ·subst c10
    have H1:(if(l0_4.length:Int) < 1 then(some 9)else(if(l0_4.length:Int) > 20 then(some 9)else((bR.f kj1 l0_4).bind fun t103=> (if t103=0 then(some 0)else(some 9)))))=some r:=by first|(rw[if_pos rfl] at H;exact H)|rfl
    clear H;have H:=H1;clear H1;by_cases c11:(l0_4.length:Int) < 1
    ·rw[if_pos c11] at H
     have c11b0:=zFq c11;have c11b1:decide (l0_4.length < 1)=true:=zFq (by omega);clear c11;obtain rfl:=zKq H;go_wp2_with (first|(go_at_call 118;(with_reducible refine(cK.calls a0_0 a0_1 a0_2 a0_3 _ _ l0_4 true _ ?side1 ?side2 A9.out).mono ?_);(case side1=>exact qC (Kd.C_below HR0_4.out HB.out));(case side2=>exact HC0_4.out);rintro e w12 ⟨rfl,hb⟩;replace BK101:=zA (qX BK101.out hb);replace HB:=zA (zV qB hb);(try clear hb);obtain⟨_,_,_,_,_,_,_,_,_,_⟩:=qc5f BK101.out));go_ret;exact⟨qE,qB⟩
    rw[if_neg c11] at H;have c11b0:=zGq c11;have c11b1:decide (l0_4.length < 1)=false:=zGq (by omega);clear c11;by_cases c14:(l0_4.length:Int) > 20
    ·rw[if_pos c14] at H
     have c14b0:decide (20 < (l0_4.length:Int))=true:=zFq c14;have c14b1:decide (20 < l0_4.length)=true:=zFq (by omega);clear c14;obtain rfl:=zKq H;go_wp2_with (first|(go_at_call 118;(with_reducible refine(cK.calls a0_0 a0_1 a0_2 a0_3 _ _ l0_4 true _ ?side1 ?side2 A9.out).mono ?_);(case side1=>exact qC (Kd.C_below HR0_4.out HB.out));(case side2=>exact HC0_4.out);rintro e w15 ⟨rfl,hb⟩;replace BK101:=zA (qX BK101.out hb);replace HB:=zA (zV qB hb);(try clear hb);obtain⟨_,_,_,_,_,_,_,_,_,_⟩:=qc5f BK101.out));go_ret;exact⟨qE,qB⟩
    rw[if_neg c14] at H;have c14b0:decide (20 < (l0_4.length:Int))=false:=zGq c14;have c14b1:decide (20 < l0_4.length)=false:=zGq (by omega);clear c14;obtain⟨t103,A17,H⟩:=qD_ H;(try dsimp only at H);by_cases c18:t103=0
    ·rw[if_pos c18] at H
     have c18b0:(t103==0)=true:=beq_iff_eq.mpr c18;have c18b1:(t103 != 0)=false:=bne_eq_false_iff_eq.mpr c18;clear c18;obtain rfl:=zKq H;go_wp2_with (first|(go_at_call 118;(with_reducible refine(cK.calls a0_0 a0_1 a0_2 a0_3 _ _ l0_4 true _ ?side1 ?side2 A9.out).mono ?_);(case side1=>exact qC (Kd.C_below HR0_4.out HB.out));(case side2=>exact HC0_4.out);rintro e w19 ⟨rfl,hb⟩;replace BK101:=zA (qX BK101.out hb);replace HB:=zA (zV qB hb);(try clear hb);obtain⟨_,_,_,_,_,_,_,_,_,_⟩:=qc5f BK101.out)|(go_at_call 119;(with_reducible refine(bR.calls kj1 _ _ l0_4 t103 _ ?side1 ?side2 A17.out).mono ?_);(case side1=>exact qC (Kd.C_below HR0_4.out HB.out));(case side2=>exact HC0_4.out);rintro e w21 ⟨rfl,hb⟩;replace BK101:=zA (qX BK101.out hb);replace HB:=zA (zV qB hb);(try clear hb)));go_ret;exact⟨qE,qB⟩
    rw[if_neg c18] at H;have c18b0:(t103==0)=false:=beq_eq_false_iff_ne.mpr c18;have c18b1:(t103 != 0)=true:=bne_iff_ne.mpr c18;obtain rfl:=zKq H;go_wp2_with (first|(go_at_call 118;(with_reducible refine(cK.calls a0_0 a0_1 a0_2 a0_3 _ _ l0_4 true _ ?side1 ?side2 A9.out).mono ?_);(case side1=>exact qC (Kd.C_below HR0_4.out HB.out));(case side2=>exact HC0_4.out);rintro e w22 ⟨rfl,hb⟩;replace BK101:=zA (qX BK101.out hb);replace HB:=zA (zV qB hb);(try clear hb);obtain⟨_,_,_,_,_,_,_,_,_,_⟩:=qc5f BK101.out)|(go_at_call 119;(with_reducible refine(bR.calls kj1 _ _ l0_4 t103 _ ?side1 ?side2 A17.out).mono ?_);(case side1=>exact qC (Kd.C_below HR0_4.out HB.out));(case side2=>exact HC0_4.out);rintro e w24 ⟨rfl,hb⟩;replace BK101:=zA (qX BK101.out hb);replace HB:=zA (zV qB hb);(try clear hb)));go_ret;exact⟨qE,qB⟩
   replace c10:=Bool.eq_false_iff.mpr c10;subst c10;have H1:(some 8)=some r:=by first|(rw[if_neg (show ¬ (false=true) by decide)] at H;exact H)|rfl
   clear H;have H:=H1;clear H1;obtain rfl:=zKq H;go_wp2_with (first|(go_at_call 118;(with_reducible refine(cK.calls a0_0 a0_1 a0_2 a0_3 _ _ l0_4 false _ ?side1 ?side2 A9.out).mono ?_);(case side1=>exact qC (Kd.C_below HR0_4.out HB.out));(case side2=>exact HC0_4.out);rintro e w25 ⟨rfl,hb⟩;replace BK101:=zA (qX BK101.out hb);replace HB:=zA (zV qB hb);(try clear hb)));go_ret;exact⟨qE,qB⟩
def cD.l0:Nat→Int→Int→Int→List (S71)→Int→Int→Option (Int × Int × Int × Int)
  |0,_,_,_,_,_,_=>none
  |k+1,x2,x3,x4,x15,x16,x17=>if x17 < x16 then(if 0≤x17 then(if x17 < (x15.length:Int)then((bJ.f k ((rd_T71 x15 x17).f0) ((rd_T71 x15 x17).f1) ((rd_T71 x15 x17).f2) ((rd_T71 x15 x17).f3) ((rd_T71 x15 x17).f4)).bind fun t103=> (if t103=0 then((aZ.f k (([x2,(rd_T71 x15 x17).f1] :List Int))).bind fun bt107=> ((aZ.f k (([x3,(rd_T71 x15 x17).f2] :List Int))).bind fun bt112=> ((aZ.f k (([x4,(rd_T71 x15 x17).f3] :List Int))).bind fun bt117=> (if bt107.2=0 then(if bt112.2=0 then(if bt117.2=0 then(cD.l0 k bt107.1 bt112.1 bt117.1 x15 x16 (wrap64 (x17+1)))else(some (0,0,0,8)))else(some (0,0,0,8)))else(some (0,0,0,8))))))else(some (0,0,0,t103))))else(none))else(none))else(some (x2,x3,x4,0))
def cD.f (k:Nat) (l0:List (S71)):Option (Int × Int × Int × Int):=cD.l0 k 0 0 0 l0 (l0.length:Int) 0
theorem cD.mono_l: ∀ k,(∀ y0 y1 y2 y3 y4 y5,LeO (cD.l0 k y0 y1 y2 y3 y4 y5) (cD.l0 (k+1) y0 y1 y2 y3 y4 y5))
  |0=>fun _ _ _ _ _ _ r h=>by simp[cD.l0] at h
  |k+1=>by
    have ih0:=cD.mono_l k
    intro y0 y1 y2 y3 y4 y5
    unfold cD.l0
    repeat' (with_reducible first|exact ih0 _ _ _ _ _ _|exact aZ.mono _ _|exact bJ.mono _ _ _ _ _ _|exact LeO.refl _|exact LeO.none _|refine LeO.ite ?_ ?_|refine LeO.bind ?_ (fun _=>?_))
theorem cD.mono: ∀ a0 k,LeO (cD.f k a0) (cD.f (k+1) a0):=by
  intro a0 k
  have ih0:=cD.mono_l k
  unfold cD.f
  repeat' (with_reducible first|exact ih0 _ _ _ _ _ _|exact aZ.mono _ _|exact bJ.mono _ _ _ _ _ _|exact LeO.refl _|exact LeO.none _|refine LeO.ite ?_ ?_|refine LeO.bind ?_ (fun _=>?_))
theorem cD.calls (k:Nat) (A0:Option Addr) (c0:Nat) (l0:List (S71)) (r1:Int) (r2:Int) (r3:Int) (r4:Int) (w:World) (hr0:Kd.C k71 w A0 l0.length l0) (hc0:l0.length≤c0) (h:cD.f k l0=some (r1,r2,r3,r4)):
  Calls Try.prog 71 #[.slice A0 l0.length c0] w fun e w'=>e= .returned (.tuple #[.int .i64 r1,.int .i64 r2,.int .i64 r3,.int .i64 r4])∧Below w.heap.size w w':=by
 have hu71:=Try.underlying71
 have HR0:=zA hr0
 have HC0:=zA hc0
 clear hr0 hc0
 have HB:=zA (Below.refl w.heap.size w)
 have H:(cD.l0 k 0 0 0 l0 (l0.length:Int) 0)=some (r1,r2,r3,r4):=h
 clear h
 have H':=zA H
 clear H
 go_enter Try.func71,Try.ntmps71
 go_wp2
 go_loopg[2,3,4,17] k (fun kq v2 v3 v4 v17 w'=> ∃ (x2_1:Int) (x3_1:Int) (x4_1:Int) (x17_1:Int),v2= .int .i64 x2_1∧v3= .int .i64 x3_1∧v4= .int .i64 x4_1∧v17= .int .i64 x17_1∧Aside0 (cD.l0 kq x2_1 x3_1 x4_1 l0 (l0.length:Int) x17_1=some (r1,r2,r3,r4))∧Aside0 (kq≤k)∧Aside0 (Below w.heap.size w w'))
 case atStart=>exact⟨(0),(0),(0),(0),qF_,qF_,qF_,qF_,H',⟨Nat.le_refl _⟩,⟨qB⟩⟩
 case round=>
  clear H';obtain⟨x2_1,x3_1,x4_1,x17_1,rfl,rfl,rfl,rfl,HA,HK1,HB⟩:=hrel;cases gk with
  |zero=>exact absurd HA.out (by simp[cD.l0])
  |succ k1=>
   have H:=HA.out;clear HA;simp only[cD.l0] at H;by_cases c2:x17_1 < (l0.length:Int)
   ·rw[if_pos c2] at H
    have c2b0:=zFq c2;clear c2;by_cases c3:0≤x17_1
    ·rw[if_pos c3] at H
     have c3b0:=zFq c3;clear c3;by_cases c4:x17_1 < (l0.length:Int)
     ·rw[if_pos c4] at H
      have c4b0:=zFq c4;clear c4;obtain⟨t103,A5,H⟩:=qD_ H;(try dsimp only at H);by_cases c6:t103=0
      ·rw[if_pos c6] at H
       have c6b0:(t103==0)=true:=beq_iff_eq.mpr c6;have c6b1:(t103 != 0)=false:=bne_eq_false_iff_eq.mpr c6;clear c6;obtain⟨y104,hy104⟩: ∃ y_:List Int,y_=(([x2_1,(rd_T71 l0 x17_1).f1] :List Int)):=⟨_,rfl⟩
       replace H:((aZ.f k1 y104).bind fun bt107=> ((aZ.f k1 (([x3_1,(rd_T71 l0 x17_1).f2] :List Int))).bind fun bt112=> ((aZ.f k1 (([x4_1,(rd_T71 l0 x17_1).f3] :List Int))).bind fun bt117=> (if bt107.2=0 then(if bt112.2=0 then(if bt117.2=0 then(cD.l0 k1 bt107.1 bt112.1 bt117.1 l0 (l0.length:Int) (wrap64 (x17_1+1)))else(some (0,0,0,8)))else(some (0,0,0,8)))else(some (0,0,0,8))))))=some (r1,r2,r3,r4):=by first|(rw[hy104];with_reducible exact H)|(have H2_:=(Option.bind_some _ _).symm.trans H;rw[hy104];with_reducible exact H2_)|(have H2_:=(Option.bind_some _ _).symm.trans H;with_reducible exact H2_)|with_reducible exact H|(rw[hy104];exact H)|exact H
       have Ny104:=zA hy104;clear hy104;obtain⟨⟨t107,t108⟩,A7,H⟩:=qD_ H;(try dsimp only at H);obtain⟨y109,hy109⟩: ∃ y_:List Int,y_=(([x3_1,(rd_T71 l0 x17_1).f2] :List Int)):=⟨_,rfl⟩
       replace H:((aZ.f k1 y109).bind fun bt112=> ((aZ.f k1 (([x4_1,(rd_T71 l0 x17_1).f3] :List Int))).bind fun bt117=> (if t108=0 then(if bt112.2=0 then(if bt117.2=0 then(cD.l0 k1 t107 bt112.1 bt117.1 l0 (l0.length:Int) (wrap64 (x17_1+1)))else(some (0,0,0,8)))else(some (0,0,0,8)))else(some (0,0,0,8)))))=some (r1,r2,r3,r4):=by first|(rw[hy109];with_reducible exact H)|(have H2_:=(Option.bind_some _ _).symm.trans H;rw[hy109];with_reducible exact H2_)|(have H2_:=(Option.bind_some _ _).symm.trans H;with_reducible exact H2_)|with_reducible exact H|(rw[hy109];exact H)|exact H
       have Ny109:=zA hy109;clear hy109;obtain⟨⟨t112,t113⟩,A8,H⟩:=qD_ H;(try dsimp only at H);obtain⟨y114,hy114⟩: ∃ y_:List Int,y_=(([x4_1,(rd_T71 l0 x17_1).f3] :List Int)):=⟨_,rfl⟩
       replace H:((aZ.f k1 y114).bind fun bt117=> (if t108=0 then(if t113=0 then(if bt117.2=0 then(cD.l0 k1 t107 t112 bt117.1 l0 (l0.length:Int) (wrap64 (x17_1+1)))else(some (0,0,0,8)))else(some (0,0,0,8)))else(some (0,0,0,8))))=some (r1,r2,r3,r4):=by first|(rw[hy114];with_reducible exact H)|(have H2_:=(Option.bind_some _ _).symm.trans H;rw[hy114];with_reducible exact H2_)|(have H2_:=(Option.bind_some _ _).symm.trans H;with_reducible exact H2_)|with_reducible exact H|(rw[hy114];exact H)|exact H
       have Ny114:=zA hy114;clear hy114;obtain⟨⟨t117,t118⟩,A9,H⟩:=qD_ H;(try dsimp only at H);by_cases c10:t108=0
       ·rw[if_pos c10] at H
        have c10b0:(t108==0)=true:=beq_iff_eq.mpr c10;have c10b1:(t108 != 0)=false:=bne_eq_false_iff_eq.mpr c10;clear c10;by_cases c11:t113=0
        ·rw[if_pos c11] at H
         have c11b0:(t113==0)=true:=beq_iff_eq.mpr c11;have c11b1:(t113 != 0)=false:=bne_eq_false_iff_eq.mpr c11;clear c11;by_cases c12:t118=0
         ·rw[if_pos c12] at H
          have c12b0:(t118==0)=true:=beq_iff_eq.mpr c12;have c12b1:(t118 != 0)=false:=bne_eq_false_iff_eq.mpr c12;clear c12;have H':=zA H;clear H;have p101:0≤(x17_1:Int):=qO_;have q101:x17_1 < (l0.length:Int):=qO_;obtain⟨ad101,A101_4,c101_4,e101,hx101_0,hx101_1,hx101_2,hx101_3,hx101_4,hl101_4,hi101_4⟩:=at_T71 HR0.out x17_1 p101 q101;cases e101
          replace hx101_0:=qU_ hx101_0;replace hx101_1:=qU_ hx101_1;replace hx101_2:=qU_ hx101_2;replace hx101_3:=qU_ hx101_3;replace hx101_4:=qU_ hx101_4;have HR101_4:=zA hi101_4;have HC101_4:=zA hl101_4;clear hi101_4 hl101_4;replace p101:=eq_true p101;replace q101:=eq_true q101;go_wp2_with (first|((with_reducible refine gate_dst (N:=7) rfl ?_);refine box_event qr (N:=7) qr (cs:= #[.int .i64 0,.int .i64 0,.int .i64 0,.int .i64 0,.slice none 0 0]) (t:=71) qg ?_;intro gb102 hg w13 hbox hb;have BK102:=zA (hbox);have GW102:=zA ((qS:w.heap.size≤gb102));have GE102:=zA ((qS:w.heap.size≤gb102));replace HB:=zA (zV qB hb);clear hb hbox hg;obtain⟨_,_,_,_,_,_,_,_,_,_⟩:=qc5f BK102.out)|((with_reducible refine zJq (f:=69) rfl ?_);refine goesL_ (some 22) rfl rfl Try.func69 (by kernel_rfl) rfl #[.agg #[.int .i64 ((rd_T71 l0 x17_1).f0),.int .i64 ((rd_T71 l0 x17_1).f1),.int .i64 ((rd_T71 l0 x17_1).f2),.int .i64 ((rd_T71 l0 x17_1).f3),.slice A101_4 ((rd_T71 l0 x17_1).f4).length c101_4]] rfl qG ?_;(with_reducible refine(bJ.calls k1 ((rd_T71 l0 x17_1).f0) ((rd_T71 l0 x17_1).f1) ((rd_T71 l0 x17_1).f2) ((rd_T71 l0 x17_1).f3) _ _ ((rd_T71 l0 x17_1).f4) t103 _ ?side1 ?side2 A5.out).mono ?_);(case side1=>exact Kd.C_below HR101_4.out qB);(case side2=>exact HC101_4.out);rintro e w15 ⟨rfl,hb⟩;refine⟨_,rfl,?_⟩;replace BK102:=zA (zX (g:=gb102) (o:= .cells #[.int .i64 ((rd_T71 l0 x17_1).f0),.int .i64 ((rd_T71 l0 x17_1).f1),.int .i64 ((rd_T71 l0 x17_1).f2),.int .i64 ((rd_T71 l0 x17_1).f3),.slice A101_4 ((rd_T71 l0 x17_1).f4).length c101_4] 71 (0,0)) (qV BK102.out) hb);replace HB:=zA (zV qB hb);(try clear hb);obtain⟨_,_,_,_,_,_,_,_,_,_⟩:=qc5f BK102.out)|((with_reducible refine gate_dst (N:=30) rfl ?_);refine Kd.R_lit (Kd.int .i64) _ 3 ?hg (N:=30) ?hd (xs:=([x2_1,(rd_T71 l0 x17_1).f1] :List Int)) (inner:=[.int .i64 x2_1,.int .i64 ((rd_T71 l0 x17_1).f1)]) (ok:=fun _=>True) (okp:=fun _=>True) ?hr ?hp (fun _ hk=>hk) trivial (Below.refl _ _) (Nat.le_refl _) (by simp) ?_;(case hd=>rfl);(case hg=>rfl);(case hr=>first|(go_simp;done)|(go_simp;rfl));(case hp=>exact(Reps.one (show Kd.M (Kd.int .i64) _ _ _ x2_1 [.int .i64 x2_1] from rfl) (Reps.one (show Kd.M (Kd.int .i64) _ _ _ ((rd_T71 l0 x17_1).f1) [.int .i64 ((rd_T71 l0 x17_1).f1)] from rfl) (Reps.none _ _))));intro v105 w17 ho18 hb hg_ hnew_;clear hg_ hnew_;(first|rw[←Ny104.out] at ho18|(simp only[Int.reduceToNat] at ho18;rw[←Ny104.out] at ho18));have HO106:=zA (Kd.R_lower ho18 (zW qB));replace BK102:=zA (qX BK102.out hb);replace HB:=zA (zV qB hb);clear hb ho18;obtain⟨Ao19,co19,eo19⟩:=Kd.R_slice HO106.out;subst eo19)|((with_reducible refine zJq (f:=25) rfl ?_);refine goesL_ (some 31) rfl rfl Try.func25 (by kernel_rfl) rfl #[.slice Ao19 y104.length co19] rfl qG ?_;(with_reducible refine(aZ.calls k1 _ _ y104 t107 t108 _ ?side1 ?side2 A7.out).mono ?_);(case side1=>repeat(first|exact(Kd.R_reads' HO106.out).2.2|(with_reducible refine Kd.C_alloc ?_ _)|(with_reducible refine Kd.C_drewN ?_ _)|(with_reducible refine Kd.C_drew ?_)));(case side2=>exact(Kd.R_reads' HO106.out).2.1);rintro e w' ⟨rfl,⟨nd,rfl⟩⟩;refine⟨_,rfl,?_⟩;obtain⟨_,_,_,_,_,_,_,_,_,_⟩:=qc5f BK102.out)|((with_reducible refine gate_dst (N:=38) rfl ?_);refine Kd.R_lit (Kd.int .i64) _ 3 ?hg (N:=38) ?hd (xs:=([x3_1,(rd_T71 l0 x17_1).f2] :List Int)) (inner:=[.int .i64 x3_1,.int .i64 ((rd_T71 l0 x17_1).f2)]) (ok:=fun _=>True) (okp:=fun _=>True) ?hr ?hp (fun _ hk=>hk) trivial (Below.refl _ _) (Nat.le_refl _) (by simp) ?_;(case hd=>rfl);(case hg=>rfl);(case hr=>first|(go_simp;done)|(go_simp;rfl));(case hp=>exact(Reps.one (show Kd.M (Kd.int .i64) _ _ _ x3_1 [.int .i64 x3_1] from rfl) (Reps.one (show Kd.M (Kd.int .i64) _ _ _ ((rd_T71 l0 x17_1).f2) [.int .i64 ((rd_T71 l0 x17_1).f2)] from rfl) (Reps.none _ _))));intro v110 w21 ho22 hb hg_ hnew_;clear hg_ hnew_;(first|rw[←Ny109.out] at ho22|(simp only[Int.reduceToNat] at ho22;rw[←Ny109.out] at ho22));have HO111:=zA (Kd.R_lower (Kd.R_new' ho22 (Kd.R_lt (qR_ HO106.out))) (zW qB));replace HO106:=zA (Kd.R_elder' (qR_ HO106.out) (Kd.R_base ho22) hb);replace BK102:=zA (qX BK102.out hb);replace HB:=zA (zV qB hb);clear hb ho22;obtain⟨Ao23,co23,eo23⟩:=Kd.R_slice HO111.out;subst eo23)|((with_reducible refine zJq (f:=25) rfl ?_);refine goesL_ (some 39) rfl rfl Try.func25 (by kernel_rfl) rfl #[.slice Ao23 y109.length co23] rfl qG ?_;(with_reducible refine(aZ.calls k1 _ _ y109 t112 t113 _ ?side1 ?side2 A8.out).mono ?_);(case side1=>repeat(first|exact(Kd.R_reads' HO111.out).2.2|(with_reducible refine Kd.C_alloc ?_ _)|(with_reducible refine Kd.C_drewN ?_ _)|(with_reducible refine Kd.C_drew ?_)));(case side2=>exact(Kd.R_reads' HO111.out).2.1);rintro e w' ⟨rfl,⟨nd,rfl⟩⟩;refine⟨_,rfl,?_⟩;obtain⟨_,_,_,_,_,_,_,_,_,_⟩:=qc5f BK102.out)|((with_reducible refine gate_dst (N:=46) rfl ?_);refine Kd.R_lit (Kd.int .i64) _ 3 ?hg (N:=46) ?hd (xs:=([x4_1,(rd_T71 l0 x17_1).f3] :List Int)) (inner:=[.int .i64 x4_1,.int .i64 ((rd_T71 l0 x17_1).f3)]) (ok:=fun _=>True) (okp:=fun _=>True) ?hr ?hp (fun _ hk=>hk) trivial (Below.refl _ _) (Nat.le_refl _) (by simp) ?_;(case hd=>rfl);(case hg=>rfl);(case hr=>first|(go_simp;done)|(go_simp;rfl));(case hp=>exact(Reps.one (show Kd.M (Kd.int .i64) _ _ _ x4_1 [.int .i64 x4_1] from rfl) (Reps.one (show Kd.M (Kd.int .i64) _ _ _ ((rd_T71 l0 x17_1).f3) [.int .i64 ((rd_T71 l0 x17_1).f3)] from rfl) (Reps.none _ _))));intro v115 w25 ho26 hb hg_ hnew_;clear hg_ hnew_;(first|rw[←Ny114.out] at ho26|(simp only[Int.reduceToNat] at ho26;rw[←Ny114.out] at ho26));have HO116:=zA (Kd.R_lower (Kd.R_new' (Kd.R_new' ho26 (Kd.R_lt (qR_ HO106.out))) (Kd.R_lt (qR_ HO111.out))) (zW qB));replace HO106:=zA (Kd.R_elder' (qR_ HO106.out) (Kd.R_base ho26) hb);replace HO111:=zA (Kd.R_elder' (qR_ HO111.out) (Kd.R_base ho26) hb);replace BK102:=zA (qX BK102.out hb);replace HB:=zA (zV qB hb);clear hb ho26;obtain⟨Ao27,co27,eo27⟩:=Kd.R_slice HO116.out;subst eo27)|((with_reducible refine zJq (f:=25) rfl ?_);refine goesL_ (some 47) rfl rfl Try.func25 (by kernel_rfl) rfl #[.slice Ao27 y114.length co27] rfl qG ?_;(with_reducible refine(aZ.calls k1 _ _ y114 t117 t118 _ ?side1 ?side2 A9.out).mono ?_);(case side1=>repeat(first|exact(Kd.R_reads' HO116.out).2.2|(with_reducible refine Kd.C_alloc ?_ _)|(with_reducible refine Kd.C_drewN ?_ _)|(with_reducible refine Kd.C_drew ?_)));(case side2=>exact(Kd.R_reads' HO116.out).2.1);rintro e w' ⟨rfl,⟨nd,rfl⟩⟩;refine⟨_,rfl,?_⟩))
          go_roundg k1
          case measure=>have:=HK1.out;omega
          case rel=>exact⟨(t107),(t112),(t117),(wrap64 (x17_1+1)),qF_,qF_,qF_,qF_,H',⟨by have:=HK1.out;omega⟩,⟨qB⟩⟩
         rw[if_neg c12] at H;have c12b0:(t118==0)=false:=beq_eq_false_iff_ne.mpr c12;have c12b1:(t118 != 0)=true:=bne_iff_ne.mpr c12;simp only[zNq,zOq] at H;obtain⟨rfl,rfl,rfl,rfl⟩:=H;have p101:0≤(x17_1:Int):=qO_;have q101:x17_1 < (l0.length:Int):=qO_;obtain⟨ad101,A101_4,c101_4,e101,hx101_0,hx101_1,hx101_2,hx101_3,hx101_4,hl101_4,hi101_4⟩:=at_T71 HR0.out x17_1 p101 q101;cases e101
         replace hx101_0:=qU_ hx101_0;replace hx101_1:=qU_ hx101_1;replace hx101_2:=qU_ hx101_2;replace hx101_3:=qU_ hx101_3;replace hx101_4:=qU_ hx101_4;have HR101_4:=zA hi101_4;have HC101_4:=zA hl101_4;clear hi101_4 hl101_4;replace p101:=eq_true p101;replace q101:=eq_true q101;go_wp2_with (first|((with_reducible refine gate_dst (N:=7) rfl ?_);refine box_event qr (N:=7) qr (cs:= #[.int .i64 0,.int .i64 0,.int .i64 0,.int .i64 0,.slice none 0 0]) (t:=71) qg ?_;intro gb102 hg w28 hbox hb;have BK102:=zA (hbox);have GW102:=zA ((qS:w.heap.size≤gb102));have GE102:=zA ((qS:w.heap.size≤gb102));replace HB:=zA (zV qB hb);clear hb hbox hg;obtain⟨_,_,_,_,_,_,_,_,_,_⟩:=qc5f BK102.out)|((with_reducible refine zJq (f:=69) rfl ?_);refine goesL_ (some 22) rfl rfl Try.func69 (by kernel_rfl) rfl #[.agg #[.int .i64 ((rd_T71 l0 x17_1).f0),.int .i64 ((rd_T71 l0 x17_1).f1),.int .i64 ((rd_T71 l0 x17_1).f2),.int .i64 ((rd_T71 l0 x17_1).f3),.slice A101_4 ((rd_T71 l0 x17_1).f4).length c101_4]] rfl qG ?_;(with_reducible refine(bJ.calls k1 ((rd_T71 l0 x17_1).f0) ((rd_T71 l0 x17_1).f1) ((rd_T71 l0 x17_1).f2) ((rd_T71 l0 x17_1).f3) _ _ ((rd_T71 l0 x17_1).f4) t103 _ ?side1 ?side2 A5.out).mono ?_);(case side1=>exact Kd.C_below HR101_4.out qB);(case side2=>exact HC101_4.out);rintro e w30 ⟨rfl,hb⟩;refine⟨_,rfl,?_⟩;replace BK102:=zA (zX (g:=gb102) (o:= .cells #[.int .i64 ((rd_T71 l0 x17_1).f0),.int .i64 ((rd_T71 l0 x17_1).f1),.int .i64 ((rd_T71 l0 x17_1).f2),.int .i64 ((rd_T71 l0 x17_1).f3),.slice A101_4 ((rd_T71 l0 x17_1).f4).length c101_4] 71 (0,0)) (qV BK102.out) hb);replace HB:=zA (zV qB hb);(try clear hb);obtain⟨_,_,_,_,_,_,_,_,_,_⟩:=qc5f BK102.out)|((with_reducible refine gate_dst (N:=30) rfl ?_);refine Kd.R_lit (Kd.int .i64) _ 3 ?hg (N:=30) ?hd (xs:=([x2_1,(rd_T71 l0 x17_1).f1] :List Int)) (inner:=[.int .i64 x2_1,.int .i64 ((rd_T71 l0 x17_1).f1)]) (ok:=fun _=>True) (okp:=fun _=>True) ?hr ?hp (fun _ hk=>hk) trivial (Below.refl _ _) (Nat.le_refl _) (by simp) ?_;(case hd=>rfl);(case hg=>rfl);(case hr=>first|(go_simp;done)|(go_simp;rfl));(case hp=>exact(Reps.one (show Kd.M (Kd.int .i64) _ _ _ x2_1 [.int .i64 x2_1] from rfl) (Reps.one (show Kd.M (Kd.int .i64) _ _ _ ((rd_T71 l0 x17_1).f1) [.int .i64 ((rd_T71 l0 x17_1).f1)] from rfl) (Reps.none _ _))));intro v105 w32 ho33 hb hg_ hnew_;clear hg_ hnew_;(first|rw[←Ny104.out] at ho33|(simp only[Int.reduceToNat] at ho33;rw[←Ny104.out] at ho33));have HO106:=zA (Kd.R_lower ho33 (zW qB));replace BK102:=zA (qX BK102.out hb);replace HB:=zA (zV qB hb);clear hb ho33;obtain⟨Ao34,co34,eo34⟩:=Kd.R_slice HO106.out;subst eo34)|((with_reducible refine zJq (f:=25) rfl ?_);refine goesL_ (some 31) rfl rfl Try.func25 (by kernel_rfl) rfl #[.slice Ao34 y104.length co34] rfl qG ?_;(with_reducible refine(aZ.calls k1 _ _ y104 t107 t108 _ ?side1 ?side2 A7.out).mono ?_);(case side1=>repeat(first|exact(Kd.R_reads' HO106.out).2.2|(with_reducible refine Kd.C_alloc ?_ _)|(with_reducible refine Kd.C_drewN ?_ _)|(with_reducible refine Kd.C_drew ?_)));(case side2=>exact(Kd.R_reads' HO106.out).2.1);rintro e w' ⟨rfl,⟨nd,rfl⟩⟩;refine⟨_,rfl,?_⟩;obtain⟨_,_,_,_,_,_,_,_,_,_⟩:=qc5f BK102.out)|((with_reducible refine gate_dst (N:=38) rfl ?_);refine Kd.R_lit (Kd.int .i64) _ 3 ?hg (N:=38) ?hd (xs:=([x3_1,(rd_T71 l0 x17_1).f2] :List Int)) (inner:=[.int .i64 x3_1,.int .i64 ((rd_T71 l0 x17_1).f2)]) (ok:=fun _=>True) (okp:=fun _=>True) ?hr ?hp (fun _ hk=>hk) trivial (Below.refl _ _) (Nat.le_refl _) (by simp) ?_;(case hd=>rfl);(case hg=>rfl);(case hr=>first|(go_simp;done)|(go_simp;rfl));(case hp=>exact(Reps.one (show Kd.M (Kd.int .i64) _ _ _ x3_1 [.int .i64 x3_1] from rfl) (Reps.one (show Kd.M (Kd.int .i64) _ _ _ ((rd_T71 l0 x17_1).f2) [.int .i64 ((rd_T71 l0 x17_1).f2)] from rfl) (Reps.none _ _))));intro v110 w36 ho37 hb hg_ hnew_;clear hg_ hnew_;(first|rw[←Ny109.out] at ho37|(simp only[Int.reduceToNat] at ho37;rw[←Ny109.out] at ho37));have HO111:=zA (Kd.R_lower (Kd.R_new' ho37 (Kd.R_lt (qR_ HO106.out))) (zW qB));replace HO106:=zA (Kd.R_elder' (qR_ HO106.out) (Kd.R_base ho37) hb);replace BK102:=zA (qX BK102.out hb);replace HB:=zA (zV qB hb);clear hb ho37;obtain⟨Ao38,co38,eo38⟩:=Kd.R_slice HO111.out;subst eo38)|((with_reducible refine zJq (f:=25) rfl ?_);refine goesL_ (some 39) rfl rfl Try.func25 (by kernel_rfl) rfl #[.slice Ao38 y109.length co38] rfl qG ?_;(with_reducible refine(aZ.calls k1 _ _ y109 t112 t113 _ ?side1 ?side2 A8.out).mono ?_);(case side1=>repeat(first|exact(Kd.R_reads' HO111.out).2.2|(with_reducible refine Kd.C_alloc ?_ _)|(with_reducible refine Kd.C_drewN ?_ _)|(with_reducible refine Kd.C_drew ?_)));(case side2=>exact(Kd.R_reads' HO111.out).2.1);rintro e w' ⟨rfl,⟨nd,rfl⟩⟩;refine⟨_,rfl,?_⟩;obtain⟨_,_,_,_,_,_,_,_,_,_⟩:=qc5f BK102.out)|((with_reducible refine gate_dst (N:=46) rfl ?_);refine Kd.R_lit (Kd.int .i64) _ 3 ?hg (N:=46) ?hd (xs:=([x4_1,(rd_T71 l0 x17_1).f3] :List Int)) (inner:=[.int .i64 x4_1,.int .i64 ((rd_T71 l0 x17_1).f3)]) (ok:=fun _=>True) (okp:=fun _=>True) ?hr ?hp (fun _ hk=>hk) trivial (Below.refl _ _) (Nat.le_refl _) (by simp) ?_;(case hd=>rfl);(case hg=>rfl);(case hr=>first|(go_simp;done)|(go_simp;rfl));(case hp=>exact(Reps.one (show Kd.M (Kd.int .i64) _ _ _ x4_1 [.int .i64 x4_1] from rfl) (Reps.one (show Kd.M (Kd.int .i64) _ _ _ ((rd_T71 l0 x17_1).f3) [.int .i64 ((rd_T71 l0 x17_1).f3)] from rfl) (Reps.none _ _))));intro v115 w40 ho41 hb hg_ hnew_;clear hg_ hnew_;(first|rw[←Ny114.out] at ho41|(simp only[Int.reduceToNat] at ho41;rw[←Ny114.out] at ho41));have HO116:=zA (Kd.R_lower (Kd.R_new' (Kd.R_new' ho41 (Kd.R_lt (qR_ HO106.out))) (Kd.R_lt (qR_ HO111.out))) (zW qB));replace HO106:=zA (Kd.R_elder' (qR_ HO106.out) (Kd.R_base ho41) hb);replace HO111:=zA (Kd.R_elder' (qR_ HO111.out) (Kd.R_base ho41) hb);replace BK102:=zA (qX BK102.out hb);replace HB:=zA (zV qB hb);clear hb ho41;obtain⟨Ao42,co42,eo42⟩:=Kd.R_slice HO116.out;subst eo42)|((with_reducible refine zJq (f:=25) rfl ?_);refine goesL_ (some 47) rfl rfl Try.func25 (by kernel_rfl) rfl #[.slice Ao42 y114.length co42] rfl qG ?_;(with_reducible refine(aZ.calls k1 _ _ y114 t117 t118 _ ?side1 ?side2 A9.out).mono ?_);(case side1=>repeat(first|exact(Kd.R_reads' HO116.out).2.2|(with_reducible refine Kd.C_alloc ?_ _)|(with_reducible refine Kd.C_drewN ?_ _)|(with_reducible refine Kd.C_drew ?_)));(case side2=>exact(Kd.R_reads' HO116.out).2.1);rintro e w' ⟨rfl,⟨nd,rfl⟩⟩;refine⟨_,rfl,?_⟩))
         refine bodyPost_ret (results_list (rs:=[.tmp 2,.tmp 3,.tmp 4,.tmp 5]) rfl (by simp) (.tmp (.tmp (.tmp (.tmp .nil))))) rfl ?_;exact⟨qE,qB⟩
        rw[if_neg c11] at H;have c11b0:(t113==0)=false:=beq_eq_false_iff_ne.mpr c11;have c11b1:(t113 != 0)=true:=bne_iff_ne.mpr c11;simp only[zNq,zOq] at H;obtain⟨rfl,rfl,rfl,rfl⟩:=H;have p101:0≤(x17_1:Int):=qO_;have q101:x17_1 < (l0.length:Int):=qO_;obtain⟨ad101,A101_4,c101_4,e101,hx101_0,hx101_1,hx101_2,hx101_3,hx101_4,hl101_4,hi101_4⟩:=at_T71 HR0.out x17_1 p101 q101;cases e101
        replace hx101_0:=qU_ hx101_0;replace hx101_1:=qU_ hx101_1;replace hx101_2:=qU_ hx101_2;replace hx101_3:=qU_ hx101_3;replace hx101_4:=qU_ hx101_4;have HR101_4:=zA hi101_4;have HC101_4:=zA hl101_4;clear hi101_4 hl101_4;replace p101:=eq_true p101;replace q101:=eq_true q101;go_wp2_with (first|((with_reducible refine gate_dst (N:=7) rfl ?_);refine box_event qr (N:=7) qr (cs:= #[.int .i64 0,.int .i64 0,.int .i64 0,.int .i64 0,.slice none 0 0]) (t:=71) qg ?_;intro gb102 hg w43 hbox hb;have BK102:=zA (hbox);have GW102:=zA ((qS:w.heap.size≤gb102));have GE102:=zA ((qS:w.heap.size≤gb102));replace HB:=zA (zV qB hb);clear hb hbox hg;obtain⟨_,_,_,_,_,_,_,_,_,_⟩:=qc5f BK102.out)|((with_reducible refine zJq (f:=69) rfl ?_);refine goesL_ (some 22) rfl rfl Try.func69 (by kernel_rfl) rfl #[.agg #[.int .i64 ((rd_T71 l0 x17_1).f0),.int .i64 ((rd_T71 l0 x17_1).f1),.int .i64 ((rd_T71 l0 x17_1).f2),.int .i64 ((rd_T71 l0 x17_1).f3),.slice A101_4 ((rd_T71 l0 x17_1).f4).length c101_4]] rfl qG ?_;(with_reducible refine(bJ.calls k1 ((rd_T71 l0 x17_1).f0) ((rd_T71 l0 x17_1).f1) ((rd_T71 l0 x17_1).f2) ((rd_T71 l0 x17_1).f3) _ _ ((rd_T71 l0 x17_1).f4) t103 _ ?side1 ?side2 A5.out).mono ?_);(case side1=>exact Kd.C_below HR101_4.out qB);(case side2=>exact HC101_4.out);rintro e w45 ⟨rfl,hb⟩;refine⟨_,rfl,?_⟩;replace BK102:=zA (zX (g:=gb102) (o:= .cells #[.int .i64 ((rd_T71 l0 x17_1).f0),.int .i64 ((rd_T71 l0 x17_1).f1),.int .i64 ((rd_T71 l0 x17_1).f2),.int .i64 ((rd_T71 l0 x17_1).f3),.slice A101_4 ((rd_T71 l0 x17_1).f4).length c101_4] 71 (0,0)) (qV BK102.out) hb);replace HB:=zA (zV qB hb);(try clear hb);obtain⟨_,_,_,_,_,_,_,_,_,_⟩:=qc5f BK102.out)|((with_reducible refine gate_dst (N:=30) rfl ?_);refine Kd.R_lit (Kd.int .i64) _ 3 ?hg (N:=30) ?hd (xs:=([x2_1,(rd_T71 l0 x17_1).f1] :List Int)) (inner:=[.int .i64 x2_1,.int .i64 ((rd_T71 l0 x17_1).f1)]) (ok:=fun _=>True) (okp:=fun _=>True) ?hr ?hp (fun _ hk=>hk) trivial (Below.refl _ _) (Nat.le_refl _) (by simp) ?_;(case hd=>rfl);(case hg=>rfl);(case hr=>first|(go_simp;done)|(go_simp;rfl));(case hp=>exact(Reps.one (show Kd.M (Kd.int .i64) _ _ _ x2_1 [.int .i64 x2_1] from rfl) (Reps.one (show Kd.M (Kd.int .i64) _ _ _ ((rd_T71 l0 x17_1).f1) [.int .i64 ((rd_T71 l0 x17_1).f1)] from rfl) (Reps.none _ _))));intro v105 w47 ho48 hb hg_ hnew_;clear hg_ hnew_;(first|rw[←Ny104.out] at ho48|(simp only[Int.reduceToNat] at ho48;rw[←Ny104.out] at ho48));have HO106:=zA (Kd.R_lower ho48 (zW qB));replace BK102:=zA (qX BK102.out hb);replace HB:=zA (zV qB hb);clear hb ho48;obtain⟨Ao49,co49,eo49⟩:=Kd.R_slice HO106.out;subst eo49)|((with_reducible refine zJq (f:=25) rfl ?_);refine goesL_ (some 31) rfl rfl Try.func25 (by kernel_rfl) rfl #[.slice Ao49 y104.length co49] rfl qG ?_;(with_reducible refine(aZ.calls k1 _ _ y104 t107 t108 _ ?side1 ?side2 A7.out).mono ?_);(case side1=>repeat(first|exact(Kd.R_reads' HO106.out).2.2|(with_reducible refine Kd.C_alloc ?_ _)|(with_reducible refine Kd.C_drewN ?_ _)|(with_reducible refine Kd.C_drew ?_)));(case side2=>exact(Kd.R_reads' HO106.out).2.1);rintro e w' ⟨rfl,⟨nd,rfl⟩⟩;refine⟨_,rfl,?_⟩;obtain⟨_,_,_,_,_,_,_,_,_,_⟩:=qc5f BK102.out)|((with_reducible refine gate_dst (N:=38) rfl ?_);refine Kd.R_lit (Kd.int .i64) _ 3 ?hg (N:=38) ?hd (xs:=([x3_1,(rd_T71 l0 x17_1).f2] :List Int)) (inner:=[.int .i64 x3_1,.int .i64 ((rd_T71 l0 x17_1).f2)]) (ok:=fun _=>True) (okp:=fun _=>True) ?hr ?hp (fun _ hk=>hk) trivial (Below.refl _ _) (Nat.le_refl _) (by simp) ?_;(case hd=>rfl);(case hg=>rfl);(case hr=>first|(go_simp;done)|(go_simp;rfl));(case hp=>exact(Reps.one (show Kd.M (Kd.int .i64) _ _ _ x3_1 [.int .i64 x3_1] from rfl) (Reps.one (show Kd.M (Kd.int .i64) _ _ _ ((rd_T71 l0 x17_1).f2) [.int .i64 ((rd_T71 l0 x17_1).f2)] from rfl) (Reps.none _ _))));intro v110 w51 ho52 hb hg_ hnew_;clear hg_ hnew_;(first|rw[←Ny109.out] at ho52|(simp only[Int.reduceToNat] at ho52;rw[←Ny109.out] at ho52));have HO111:=zA (Kd.R_lower (Kd.R_new' ho52 (Kd.R_lt (qR_ HO106.out))) (zW qB));replace HO106:=zA (Kd.R_elder' (qR_ HO106.out) (Kd.R_base ho52) hb);replace BK102:=zA (qX BK102.out hb);replace HB:=zA (zV qB hb);clear hb ho52;obtain⟨Ao53,co53,eo53⟩:=Kd.R_slice HO111.out;subst eo53)|((with_reducible refine zJq (f:=25) rfl ?_);refine goesL_ (some 39) rfl rfl Try.func25 (by kernel_rfl) rfl #[.slice Ao53 y109.length co53] rfl qG ?_;(with_reducible refine(aZ.calls k1 _ _ y109 t112 t113 _ ?side1 ?side2 A8.out).mono ?_);(case side1=>repeat(first|exact(Kd.R_reads' HO111.out).2.2|(with_reducible refine Kd.C_alloc ?_ _)|(with_reducible refine Kd.C_drewN ?_ _)|(with_reducible refine Kd.C_drew ?_)));(case side2=>exact(Kd.R_reads' HO111.out).2.1);rintro e w' ⟨rfl,⟨nd,rfl⟩⟩;refine⟨_,rfl,?_⟩;obtain⟨_,_,_,_,_,_,_,_,_,_⟩:=qc5f BK102.out)|((with_reducible refine gate_dst (N:=46) rfl ?_);refine Kd.R_lit (Kd.int .i64) _ 3 ?hg (N:=46) ?hd (xs:=([x4_1,(rd_T71 l0 x17_1).f3] :List Int)) (inner:=[.int .i64 x4_1,.int .i64 ((rd_T71 l0 x17_1).f3)]) (ok:=fun _=>True) (okp:=fun _=>True) ?hr ?hp (fun _ hk=>hk) trivial (Below.refl _ _) (Nat.le_refl _) (by simp) ?_;(case hd=>rfl);(case hg=>rfl);(case hr=>first|(go_simp;done)|(go_simp;rfl));(case hp=>exact(Reps.one (show Kd.M (Kd.int .i64) _ _ _ x4_1 [.int .i64 x4_1] from rfl) (Reps.one (show Kd.M (Kd.int .i64) _ _ _ ((rd_T71 l0 x17_1).f3) [.int .i64 ((rd_T71 l0 x17_1).f3)] from rfl) (Reps.none _ _))));intro v115 w55 ho56 hb hg_ hnew_;clear hg_ hnew_;(first|rw[←Ny114.out] at ho56|(simp only[Int.reduceToNat] at ho56;rw[←Ny114.out] at ho56));have HO116:=zA (Kd.R_lower (Kd.R_new' (Kd.R_new' ho56 (Kd.R_lt (qR_ HO106.out))) (Kd.R_lt (qR_ HO111.out))) (zW qB));replace HO106:=zA (Kd.R_elder' (qR_ HO106.out) (Kd.R_base ho56) hb);replace HO111:=zA (Kd.R_elder' (qR_ HO111.out) (Kd.R_base ho56) hb);replace BK102:=zA (qX BK102.out hb);replace HB:=zA (zV qB hb);clear hb ho56;obtain⟨Ao57,co57,eo57⟩:=Kd.R_slice HO116.out;subst eo57)|((with_reducible refine zJq (f:=25) rfl ?_);refine goesL_ (some 47) rfl rfl Try.func25 (by kernel_rfl) rfl #[.slice Ao57 y114.length co57] rfl qG ?_;(with_reducible refine(aZ.calls k1 _ _ y114 t117 t118 _ ?side1 ?side2 A9.out).mono ?_);(case side1=>repeat(first|exact(Kd.R_reads' HO116.out).2.2|(with_reducible refine Kd.C_alloc ?_ _)|(with_reducible refine Kd.C_drewN ?_ _)|(with_reducible refine Kd.C_drew ?_)));(case side2=>exact(Kd.R_reads' HO116.out).2.1);rintro e w' ⟨rfl,⟨nd,rfl⟩⟩;refine⟨_,rfl,?_⟩))
        refine bodyPost_ret (results_list (rs:=[.tmp 2,.tmp 3,.tmp 4,.tmp 5]) rfl (by simp) (.tmp (.tmp (.tmp (.tmp .nil))))) rfl ?_;exact⟨qE,qB⟩
       rw[if_neg c10] at H;have c10b0:(t108==0)=false:=beq_eq_false_iff_ne.mpr c10;have c10b1:(t108 != 0)=true:=bne_iff_ne.mpr c10;simp only[zNq,zOq] at H;obtain⟨rfl,rfl,rfl,rfl⟩:=H;have p101:0≤(x17_1:Int):=qO_;have q101:x17_1 < (l0.length:Int):=qO_;obtain⟨ad101,A101_4,c101_4,e101,hx101_0,hx101_1,hx101_2,hx101_3,hx101_4,hl101_4,hi101_4⟩:=at_T71 HR0.out x17_1 p101 q101;cases e101
       replace hx101_0:=qU_ hx101_0;replace hx101_1:=qU_ hx101_1;replace hx101_2:=qU_ hx101_2;replace hx101_3:=qU_ hx101_3;replace hx101_4:=qU_ hx101_4;have HR101_4:=zA hi101_4;have HC101_4:=zA hl101_4;clear hi101_4 hl101_4;replace p101:=eq_true p101;replace q101:=eq_true q101;go_wp2_with (first|((with_reducible refine gate_dst (N:=7) rfl ?_);refine box_event qr (N:=7) qr (cs:= #[.int .i64 0,.int .i64 0,.int .i64 0,.int .i64 0,.slice none 0 0]) (t:=71) qg ?_;intro gb102 hg w58 hbox hb;have BK102:=zA (hbox);have GW102:=zA ((qS:w.heap.size≤gb102));have GE102:=zA ((qS:w.heap.size≤gb102));replace HB:=zA (zV qB hb);clear hb hbox hg;obtain⟨_,_,_,_,_,_,_,_,_,_⟩:=qc5f BK102.out)|((with_reducible refine zJq (f:=69) rfl ?_);refine goesL_ (some 22) rfl rfl Try.func69 (by kernel_rfl) rfl #[.agg #[.int .i64 ((rd_T71 l0 x17_1).f0),.int .i64 ((rd_T71 l0 x17_1).f1),.int .i64 ((rd_T71 l0 x17_1).f2),.int .i64 ((rd_T71 l0 x17_1).f3),.slice A101_4 ((rd_T71 l0 x17_1).f4).length c101_4]] rfl qG ?_;(with_reducible refine(bJ.calls k1 ((rd_T71 l0 x17_1).f0) ((rd_T71 l0 x17_1).f1) ((rd_T71 l0 x17_1).f2) ((rd_T71 l0 x17_1).f3) _ _ ((rd_T71 l0 x17_1).f4) t103 _ ?side1 ?side2 A5.out).mono ?_);(case side1=>exact Kd.C_below HR101_4.out qB);(case side2=>exact HC101_4.out);rintro e w60 ⟨rfl,hb⟩;refine⟨_,rfl,?_⟩;replace BK102:=zA (zX (g:=gb102) (o:= .cells #[.int .i64 ((rd_T71 l0 x17_1).f0),.int .i64 ((rd_T71 l0 x17_1).f1),.int .i64 ((rd_T71 l0 x17_1).f2),.int .i64 ((rd_T71 l0 x17_1).f3),.slice A101_4 ((rd_T71 l0 x17_1).f4).length c101_4] 71 (0,0)) (qV BK102.out) hb);replace HB:=zA (zV qB hb);(try clear hb);obtain⟨_,_,_,_,_,_,_,_,_,_⟩:=qc5f BK102.out)|((with_reducible refine gate_dst (N:=30) rfl ?_);refine Kd.R_lit (Kd.int .i64) _ 3 ?hg (N:=30) ?hd (xs:=([x2_1,(rd_T71 l0 x17_1).f1] :List Int)) (inner:=[.int .i64 x2_1,.int .i64 ((rd_T71 l0 x17_1).f1)]) (ok:=fun _=>True) (okp:=fun _=>True) ?hr ?hp (fun _ hk=>hk) trivial (Below.refl _ _) (Nat.le_refl _) (by simp) ?_;(case hd=>rfl);(case hg=>rfl);(case hr=>first|(go_simp;done)|(go_simp;rfl));(case hp=>exact(Reps.one (show Kd.M (Kd.int .i64) _ _ _ x2_1 [.int .i64 x2_1] from rfl) (Reps.one (show Kd.M (Kd.int .i64) _ _ _ ((rd_T71 l0 x17_1).f1) [.int .i64 ((rd_T71 l0 x17_1).f1)] from rfl) (Reps.none _ _))));intro v105 w62 ho63 hb hg_ hnew_;clear hg_ hnew_;(first|rw[←Ny104.out] at ho63|(simp only[Int.reduceToNat] at ho63;rw[←Ny104.out] at ho63));have HO106:=zA (Kd.R_lower ho63 (zW qB));replace BK102:=zA (qX BK102.out hb);replace HB:=zA (zV qB hb);clear hb ho63;obtain⟨Ao64,co64,eo64⟩:=Kd.R_slice HO106.out;subst eo64)|((with_reducible refine zJq (f:=25) rfl ?_);refine goesL_ (some 31) rfl rfl Try.func25 (by kernel_rfl) rfl #[.slice Ao64 y104.length co64] rfl qG ?_;(with_reducible refine(aZ.calls k1 _ _ y104 t107 t108 _ ?side1 ?side2 A7.out).mono ?_);(case side1=>repeat(first|exact(Kd.R_reads' HO106.out).2.2|(with_reducible refine Kd.C_alloc ?_ _)|(with_reducible refine Kd.C_drewN ?_ _)|(with_reducible refine Kd.C_drew ?_)));(case side2=>exact(Kd.R_reads' HO106.out).2.1);rintro e w' ⟨rfl,⟨nd,rfl⟩⟩;refine⟨_,rfl,?_⟩;obtain⟨_,_,_,_,_,_,_,_,_,_⟩:=qc5f BK102.out)|((with_reducible refine gate_dst (N:=38) rfl ?_);refine Kd.R_lit (Kd.int .i64) _ 3 ?hg (N:=38) ?hd (xs:=([x3_1,(rd_T71 l0 x17_1).f2] :List Int)) (inner:=[.int .i64 x3_1,.int .i64 ((rd_T71 l0 x17_1).f2)]) (ok:=fun _=>True) (okp:=fun _=>True) ?hr ?hp (fun _ hk=>hk) trivial (Below.refl _ _) (Nat.le_refl _) (by simp) ?_;(case hd=>rfl);(case hg=>rfl);(case hr=>first|(go_simp;done)|(go_simp;rfl));(case hp=>exact(Reps.one (show Kd.M (Kd.int .i64) _ _ _ x3_1 [.int .i64 x3_1] from rfl) (Reps.one (show Kd.M (Kd.int .i64) _ _ _ ((rd_T71 l0 x17_1).f2) [.int .i64 ((rd_T71 l0 x17_1).f2)] from rfl) (Reps.none _ _))));intro v110 w66 ho67 hb hg_ hnew_;clear hg_ hnew_;(first|rw[←Ny109.out] at ho67|(simp only[Int.reduceToNat] at ho67;rw[←Ny109.out] at ho67));have HO111:=zA (Kd.R_lower (Kd.R_new' ho67 (Kd.R_lt (qR_ HO106.out))) (zW qB));replace HO106:=zA (Kd.R_elder' (qR_ HO106.out) (Kd.R_base ho67) hb);replace BK102:=zA (qX BK102.out hb);replace HB:=zA (zV qB hb);clear hb ho67;obtain⟨Ao68,co68,eo68⟩:=Kd.R_slice HO111.out;subst eo68)|((with_reducible refine zJq (f:=25) rfl ?_);refine goesL_ (some 39) rfl rfl Try.func25 (by kernel_rfl) rfl #[.slice Ao68 y109.length co68] rfl qG ?_;(with_reducible refine(aZ.calls k1 _ _ y109 t112 t113 _ ?side1 ?side2 A8.out).mono ?_);(case side1=>repeat(first|exact(Kd.R_reads' HO111.out).2.2|(with_reducible refine Kd.C_alloc ?_ _)|(with_reducible refine Kd.C_drewN ?_ _)|(with_reducible refine Kd.C_drew ?_)));(case side2=>exact(Kd.R_reads' HO111.out).2.1);rintro e w' ⟨rfl,⟨nd,rfl⟩⟩;refine⟨_,rfl,?_⟩;obtain⟨_,_,_,_,_,_,_,_,_,_⟩:=qc5f BK102.out)|((with_reducible refine gate_dst (N:=46) rfl ?_);refine Kd.R_lit (Kd.int .i64) _ 3 ?hg (N:=46) ?hd (xs:=([x4_1,(rd_T71 l0 x17_1).f3] :List Int)) (inner:=[.int .i64 x4_1,.int .i64 ((rd_T71 l0 x17_1).f3)]) (ok:=fun _=>True) (okp:=fun _=>True) ?hr ?hp (fun _ hk=>hk) trivial (Below.refl _ _) (Nat.le_refl _) (by simp) ?_;(case hd=>rfl);(case hg=>rfl);(case hr=>first|(go_simp;done)|(go_simp;rfl));(case hp=>exact(Reps.one (show Kd.M (Kd.int .i64) _ _ _ x4_1 [.int .i64 x4_1] from rfl) (Reps.one (show Kd.M (Kd.int .i64) _ _ _ ((rd_T71 l0 x17_1).f3) [.int .i64 ((rd_T71 l0 x17_1).f3)] from rfl) (Reps.none _ _))));intro v115 w70 ho71 hb hg_ hnew_;clear hg_ hnew_;(first|rw[←Ny114.out] at ho71|(simp only[Int.reduceToNat] at ho71;rw[←Ny114.out] at ho71));have HO116:=zA (Kd.R_lower (Kd.R_new' (Kd.R_new' ho71 (Kd.R_lt (qR_ HO106.out))) (Kd.R_lt (qR_ HO111.out))) (zW qB));replace HO106:=zA (Kd.R_elder' (qR_ HO106.out) (Kd.R_base ho71) hb);replace HO111:=zA (Kd.R_elder' (qR_ HO111.out) (Kd.R_base ho71) hb);replace BK102:=zA (qX BK102.out hb);replace HB:=zA (zV qB hb);clear hb ho71;obtain⟨Ao72,co72,eo72⟩:=Kd.R_slice HO116.out;subst eo72)|((with_reducible refine zJq (f:=25) rfl ?_);refine goesL_ (some 47) rfl rfl Try.func25 (by kernel_rfl) rfl #[.slice Ao72 y114.length co72] rfl qG ?_;(with_reducible refine(aZ.calls k1 _ _ y114 t117 t118 _ ?side1 ?side2 A9.out).mono ?_);(case side1=>repeat(first|exact(Kd.R_reads' HO116.out).2.2|(with_reducible refine Kd.C_alloc ?_ _)|(with_reducible refine Kd.C_drewN ?_ _)|(with_reducible refine Kd.C_drew ?_)));(case side2=>exact(Kd.R_reads' HO116.out).2.1);rintro e w' ⟨rfl,⟨nd,rfl⟩⟩;refine⟨_,rfl,?_⟩))
       refine bodyPost_ret (results_list (rs:=[.tmp 2,.tmp 3,.tmp 4,.tmp 5]) rfl (by simp) (.tmp (.tmp (.tmp (.tmp .nil))))) rfl ?_;exact⟨qE,qB⟩
      rw[if_neg c6] at H;have c6b0:(t103==0)=false:=beq_eq_false_iff_ne.mpr c6;have c6b1:(t103 != 0)=true:=bne_iff_ne.mpr c6;simp only[zNq,zOq] at H;obtain⟨rfl,rfl,rfl,rfl⟩:=H;have p101:0≤(x17_1:Int):=qO_;have q101:x17_1 < (l0.length:Int):=qO_;obtain⟨ad101,A101_4,c101_4,e101,hx101_0,hx101_1,hx101_2,hx101_3,hx101_4,hl101_4,hi101_4⟩:=at_T71 HR0.out x17_1 p101 q101;cases e101
      replace hx101_0:=qU_ hx101_0;replace hx101_1:=qU_ hx101_1;replace hx101_2:=qU_ hx101_2;replace hx101_3:=qU_ hx101_3;replace hx101_4:=qU_ hx101_4;have HR101_4:=zA hi101_4;have HC101_4:=zA hl101_4;clear hi101_4 hl101_4;replace p101:=eq_true p101;replace q101:=eq_true q101;go_wp2_with (first|((with_reducible refine gate_dst (N:=7) rfl ?_);refine box_event qr (N:=7) qr (cs:= #[.int .i64 0,.int .i64 0,.int .i64 0,.int .i64 0,.slice none 0 0]) (t:=71) qg ?_;intro gb102 hg w73 hbox hb;have BK102:=zA (hbox);have GW102:=zA ((qS:w.heap.size≤gb102));have GE102:=zA ((qS:w.heap.size≤gb102));replace HB:=zA (zV qB hb);clear hb hbox hg;obtain⟨_,_,_,_,_,_,_,_,_,_⟩:=qc5f BK102.out)|((with_reducible refine zJq (f:=69) rfl ?_);refine goesL_ (some 22) rfl rfl Try.func69 (by kernel_rfl) rfl #[.agg #[.int .i64 ((rd_T71 l0 x17_1).f0),.int .i64 ((rd_T71 l0 x17_1).f1),.int .i64 ((rd_T71 l0 x17_1).f2),.int .i64 ((rd_T71 l0 x17_1).f3),.slice A101_4 ((rd_T71 l0 x17_1).f4).length c101_4]] rfl qG ?_;(with_reducible refine(bJ.calls k1 ((rd_T71 l0 x17_1).f0) ((rd_T71 l0 x17_1).f1) ((rd_T71 l0 x17_1).f2) ((rd_T71 l0 x17_1).f3) _ _ ((rd_T71 l0 x17_1).f4) t103 _ ?side1 ?side2 A5.out).mono ?_);(case side1=>exact Kd.C_below HR101_4.out qB);(case side2=>exact HC101_4.out);rintro e w75 ⟨rfl,hb⟩;refine⟨_,rfl,?_⟩;replace BK102:=zA (zX (g:=gb102) (o:= .cells #[.int .i64 ((rd_T71 l0 x17_1).f0),.int .i64 ((rd_T71 l0 x17_1).f1),.int .i64 ((rd_T71 l0 x17_1).f2),.int .i64 ((rd_T71 l0 x17_1).f3),.slice A101_4 ((rd_T71 l0 x17_1).f4).length c101_4] 71 (0,0)) (qV BK102.out) hb);replace HB:=zA (zV qB hb);(try clear hb)));refine bodyPost_ret (results_list (rs:=[.tmp 2,.tmp 3,.tmp 4,.tmp 5]) rfl (by simp) (.tmp (.tmp (.tmp (.tmp .nil))))) rfl ?_;exact⟨qE,qB⟩
     rw[if_neg c4] at H;exact absurd H (by simp)
    rw[if_neg c3] at H;exact absurd H (by simp)
   rw[if_neg c2] at H;have c2b0:=zGq c2;clear c2;simp only[zNq,zOq] at H;obtain⟨rfl,rfl,rfl,rfl⟩:=H;go_wp2;refine bodyPost_ret (results_list (rs:=[.tmp 2,.tmp 3,.tmp 4,.tmp 5]) rfl (by simp) (.tmp (.tmp (.tmp (.tmp .nil))))) rfl ?_;exact⟨qE,qB⟩
def cM.f (k:Nat) (l0:List (S71)):Option (Int × Int):=(cD.f k l0).bind fun bt101=> (if bt101.2.2.2=0 then((aZ.f k (([bt101.2.1,bt101.2.2.1] :List Int))).bind fun bt108=> (some (bt108.1,bt108.2)))else(some (0,bt101.2.2.2)))
theorem cM.mono: ∀ a0 k,LeO (cM.f k a0) (cM.f (k+1) a0):=by
  intro a0 k
  unfold cM.f
  repeat' (with_reducible first|exact aZ.mono _ _|exact cD.mono _ _|exact LeO.refl _|exact LeO.none _|refine LeO.ite ?_ ?_|refine LeO.bind ?_ (fun _=>?_))
theorem cM.calls (k:Nat) (A0:Option Addr) (c0:Nat) (l0:List (S71)) (r1:Int) (r2:Int) (w:World) (hr0:Kd.C k71 w A0 l0.length l0) (hc0:l0.length≤c0) (h:cM.f k l0=some (r1,r2)):
  Calls Try.prog 127 #[.slice A0 l0.length c0] w fun e w'=>e= .returned (.tuple #[.int .i64 r1,.int .i64 r2])∧Below w.heap.size w w':=by
 have HR0:=zA hr0
 have HC0:=zA hc0
 clear hr0 hc0
 have HB:=zA (Below.refl w.heap.size w)
 have H:((cD.f k l0).bind fun bt101=> (if bt101.2.2.2=0 then((aZ.f k (([bt101.2.1,bt101.2.2.1] :List Int))).bind fun bt108=> (some (bt108.1,bt108.2)))else(some (0,bt101.2.2.2))))=some (r1,r2):=h
 clear h
 obtain⟨⟨t101,t102,t103,t104⟩,A2,H⟩:=qD_ H
 (try dsimp only at H)
 by_cases c3:t104=0
 ·rw[if_pos c3] at H
  have c3b0:(t104==0)=true:=beq_iff_eq.mpr c3;have c3b1:(t104 != 0)=false:=bne_eq_false_iff_eq.mpr c3;clear c3;obtain⟨y105,hy105⟩: ∃ y_:List Int,y_=(([t102,t103] :List Int)):=⟨_,rfl⟩
  replace H:((aZ.f k y105).bind fun bt108=> (some (bt108.1,bt108.2)))=some (r1,r2):=by first|(rw[hy105];with_reducible exact H)|(have H2_:=(Option.bind_some _ _).symm.trans H;rw[hy105];with_reducible exact H2_)|(have H2_:=(Option.bind_some _ _).symm.trans H;with_reducible exact H2_)|with_reducible exact H|(rw[hy105];exact H)|exact H
  have Ny105:=zA hy105;clear hy105;obtain⟨⟨t108,t109⟩,A4,H⟩:=qD_ H;(try dsimp only at H);simp only[zNq,zOq] at H;obtain⟨rfl,rfl⟩:=H;go_enter Try.func127,Try.ntmps127;go_wp2_with (first|((with_reducible refine zJq (f:=71) rfl ?_);refine goesL_ (some 10) rfl rfl Try.func71 (by kernel_rfl) rfl #[.slice A0 l0.length c0] rfl qG ?_;(with_reducible refine(cD.calls k _ _ l0 t101 t102 t103 t104 _ ?side1 ?side2 A2.out).mono ?_);(case side1=>repeat(first|exact HR0.out|(with_reducible refine Kd.C_alloc ?_ _)|(with_reducible refine Kd.C_drewN ?_ _)|(with_reducible refine Kd.C_drew ?_)));(case side2=>exact HC0.out);rintro e w5 ⟨rfl,hb⟩;refine⟨_,rfl,?_⟩;replace HB:=zA (zV qB hb);(try clear hb))|((with_reducible refine gate_dst (N:=20) rfl ?_);refine Kd.R_lit (Kd.int .i64) _ 3 ?hg (N:=20) ?hd (xs:=([t102,t103] :List Int)) (inner:=[.int .i64 t102,.int .i64 t103]) (ok:=fun _=>True) (okp:=fun _=>True) ?hr ?hp (fun _ hk=>hk) trivial (Below.refl _ _) (Nat.le_refl _) (by simp) ?_;(case hd=>rfl);(case hg=>rfl);(case hr=>first|(go_simp;done)|(go_simp;rfl));(case hp=>exact(Reps.one (show Kd.M (Kd.int .i64) _ _ _ t102 [.int .i64 t102] from rfl) (Reps.one (show Kd.M (Kd.int .i64) _ _ _ t103 [.int .i64 t103] from rfl) (Reps.none _ _))));intro v106 w6 ho7 hb hg_ hnew_;clear hg_ hnew_;(first|rw[←Ny105.out] at ho7|(simp only[Int.reduceToNat] at ho7;rw[←Ny105.out] at ho7));have HO107:=zA (Kd.R_lower ho7 (zW qB));replace HB:=zA (zV qB hb);clear hb ho7;obtain⟨Ao8,co8,eo8⟩:=Kd.R_slice HO107.out;subst eo8)|((with_reducible refine zJq (f:=25) rfl ?_);refine goesL_ (some 21) rfl rfl Try.func25 (by kernel_rfl) rfl #[.slice Ao8 y105.length co8] rfl qG ?_;(with_reducible refine(aZ.calls k _ _ y105 t108 t109 _ ?side1 ?side2 A4.out).mono ?_);(case side1=>repeat(first|exact(Kd.R_reads' HO107.out).2.2|(with_reducible refine Kd.C_alloc ?_ _)|(with_reducible refine Kd.C_drewN ?_ _)|(with_reducible refine Kd.C_drew ?_)));(case side2=>exact(Kd.R_reads' HO107.out).2.1);rintro e w' ⟨rfl,⟨nd,rfl⟩⟩;refine⟨_,rfl,?_⟩));go_ret2;exact⟨qE,qB⟩
 rw[if_neg c3] at H
 have c3b0:(t104==0)=false:=beq_eq_false_iff_ne.mpr c3
 have c3b1:(t104 != 0)=true:=bne_iff_ne.mpr c3
 simp only[zNq,zOq] at H
 obtain⟨rfl,rfl⟩:=H
 go_enter Try.func127,Try.ntmps127
 go_wp2_with (first|((with_reducible refine zJq (f:=71) rfl ?_);refine goesL_ (some 10) rfl rfl Try.func71 (by kernel_rfl) rfl #[.slice A0 l0.length c0] rfl qG ?_;(with_reducible refine(cD.calls k _ _ l0 t101 t102 t103 t104 _ ?side1 ?side2 A2.out).mono ?_);(case side1=>repeat(first|exact HR0.out|(with_reducible refine Kd.C_alloc ?_ _)|(with_reducible refine Kd.C_drewN ?_ _)|(with_reducible refine Kd.C_drew ?_)));(case side2=>exact HC0.out);rintro e w9 ⟨rfl,hb⟩;refine⟨_,rfl,?_⟩;replace HB:=zA (zV qB hb);(try clear hb)))
 go_ret2
 exact⟨qE,qB⟩
def dD.f (l0:List (S71)):Option (List (S71)):=if l0.length < 2513169434916 then some l0 else none
theorem dD.calls (P0_:Nat→Prop) (A0:Option Addr) (c0:Nat) (l0:List (S71)) (r:List (S71)) (w:World) (hs0:Kd.V k71 71 w w.heap.size (fun k_=>P0_ k_) (.slice A0 l0.length c0) l0) (h:dD.f l0=some r):
  Calls Try.prog 141 #[.slice A0 l0.length c0] w fun e w'=> ∃ v0_:Value,e= .returned (v0_)∧Kd.N k71 71 w' w.heap.size (fun k_=> (P0_ k_∨w.heap.size≤k_)) v0_ r∧Below w.heap.size w w':=by
 unfold dD.f at h
 by_cases h3:l0.length < 2513169434916
 ·rw[if_pos h3] at h
  simp only[zNq] at h;subst h;have hinf:=info71;have hn:=fun(W:World)=>Lib.run_eql_slice_nil (P:=Try.prog) W 59 71 A0 l0.length c0 0 0 Try.underlying59
  have hv:=Kd.V_reads' hs0;have HR0:=zA (Kd.F_bound (Kd.V_F hs0));have H3:=zA h3;have HI:=zA hinf;have HE:Aside0 (Kd.N k71 71 (w.alloc (.cells #[] 71)) w.heap.size (fun k_=> (P0_ k_∨w.heap.size≤k_)) (.slice (some ⟨w.heap.size,0,none⟩) 0 0) []):=⟨⟨fun k hk=> .inr (Nat.le_of_eq (by simpa [Value.ownBlock] using hk)),[],rfl,Kd.raw_tight (R_empty_lit (Kd.raw (k71).sz) 71 w),fun j x c hx=>by simp at hx⟩⟩
  have h0:A0=none→l0=[] :=fun hA=>by
   rcases Nat.eq_zero_or_pos l0.length with h0|h0
   ·exact List.eq_nil_of_length_eq_zero h0
   obtain⟨ad,h,_⟩:=hv.2.2.2.2 h0;rw[hA] at h;cases h
  have H0:=zA h0;clear hs0 h3 hinf hv h0;cases A0 with
  |none=>
   have H00:=zA (H0.out rfl);clear H0;go_enter Try.func141,Try.ntmps141;go_wp2;go_ret;exact⟨_,rfl,by rw[H00.out];exact Kd.N_nil _ _ _ _ _,by first|exact Below.refl _ _|exact zB (Below.refl _ _) _⟩
  |some ad=>
   go_enter Try.func141,Try.ntmps141;go_wp2_with (first
    |(at_builtin;refine Kd.N_append_rows k71 (w0:=w) w.heap.size rfl (.tmp 5) (.tmp 6) 59 71 _ _ rfl Try.underlying59 HI.out rfl (by decide) (by decide) (.slice (some ⟨w.heap.size,0,none⟩) 0 0) [] l0 (some ad) l0.length c0 (fun k_=> (P0_ k_∨w.heap.size≤k_)) (fun k_=>P0_ k_∧k_ < w.heap.size) rfl rfl ?d0 ?d1 ?d2 ?d5 ?d6 ?d7 ?d3 ?d4;(case d0=>exact HE.out);(case d1=>exact Kd.F_alloc HR0.out _);(case d2=>exact fun k hk=> ⟨.inl hk.1,fun he=>absurd (show k=w.heap.size by simpa [Value.ownBlock] using he) (zLq hk.2)⟩);(case d5=>exact fun k hk=> .inr (Nat.le_trans (Nat.le_succ _) (by simpa using hk)));(case d6=>exact zD (Below.refl _ _) _);(case d7=>simp);(case d3=>simp only[List.length_nil];have:=H3.out;omega);intro v2 w2 ho2 hb2 hg2 ha2;have HO2:=zA ho2;have HB2:=zA hb2;clear ho2 hb2 hg2 ha2))
   go_ret;exact⟨v2,by first|rfl|(simp;rfl),by simpa using HO2.out,HB2.out⟩
 rw[if_neg h3] at h;cases h
mutual
def bL.j0:Nat→List (S71)→Bool→Option ((List (S71)) × Int)
  |0,_,_=>none
  |k+1,x0,x14=>if x14=true then(some (([] :List (S71)),2))else((dD.f x0).bind fun t101=> (bL.l0 k t101 (t101.length:Int) 0))
def bL.l0:Nat→List (S71)→Int→Int→Option ((List (S71)) × Int)
  |0,_,_,_=>none
  |k+1,x4,x18,x19=>if x19 < x18 then(if 0≤x19 then(if x19 < (x4.length:Int)then((some (x4.set (x19:Int).toNat (⟨(rd_T71 x4 x19).f0,(rd_T71 x4 x19).f1,0,(rd_T71 x4 x19).f3,(rd_T71 x4 x19).f4⟩:S71):List (S71))).bind fun y104=> ((some (y104.set (x19:Int).toNat (⟨(rd_T71 y104 x19).f0,(rd_T71 y104 x19).f1,(rd_T71 y104 x19).f2,0,(rd_T71 y104 x19).f4⟩:S71):List (S71))).bind fun y105=> ((bJ.f k ((rd_T71 y105 x19).f0) ((rd_T71 y105 x19).f1) ((rd_T71 y105 x19).f2) ((rd_T71 y105 x19).f3) ((rd_T71 y105 x19).f4)).bind fun t107=> (if t107=0 then(bL.l0 k y105 x18 (wrap64 (x19+1)))else(some (([] :List (S71)),t107))))))else(none))else(none))else(some (x4,0))
end
def bL.f (k:Nat) (l0:List (S71)):Option ((List (S71)) × Int):=if(l0.length:Int) < 1 then(bL.j0 k l0 true)else(bL.j0 k l0 (decide ((l0.length:Int) > 8)))
theorem bL.mono_l: ∀ k,(∀ y0 y1,LeO (bL.j0 k y0 y1) (bL.j0 (k+1) y0 y1))∧(∀ y0 y1 y2,LeO (bL.l0 k y0 y1 y2) (bL.l0 (k+1) y0 y1 y2))
  |0=> ⟨fun _ _ r h=>by simp[bL.j0] at h,fun _ _ _ r h=>by simp[bL.l0] at h⟩
  |k+1=>by
    obtain⟨ih0,ih1⟩:=bL.mono_l k
    refine⟨?_,?_⟩
    · intro y0 y1
      unfold bL.j0
      repeat' (with_reducible first|exact ih0 _ _|exact ih1 _ _ _|exact bJ.mono _ _ _ _ _ _|exact LeO.refl _|exact LeO.none _|refine LeO.ite ?_ ?_|refine LeO.bind ?_ (fun _=>?_))
    intro y0 y1 y2
    unfold bL.l0
    repeat' (with_reducible first|exact ih0 _ _|exact ih1 _ _ _|exact bJ.mono _ _ _ _ _ _|exact LeO.refl _|exact LeO.none _|refine LeO.ite ?_ ?_|refine LeO.bind ?_ (fun _=>?_))
theorem bL.mono: ∀ a0 k,LeO (bL.f k a0) (bL.f (k+1) a0):=by
  intro a0 k
  obtain⟨ih0,ih1⟩:=bL.mono_l k
  unfold bL.f
  repeat' (with_reducible first|exact ih0 _ _|exact ih1 _ _ _|exact bJ.mono _ _ _ _ _ _|exact LeO.refl _|exact LeO.none _|refine LeO.ite ?_ ?_|refine LeO.bind ?_ (fun _=>?_))
theorem bL.calls (k:Nat) (P0_:Nat→Prop) (A0:Option Addr) (c0:Nat) (l0:List (S71)) (r1:List (S71)) (r2:Int) (w:World) (hs0:Kd.V k71 71 w w.heap.size (fun k_=>P0_ k_) (.slice A0 l0.length c0) l0) (h:bL.f k l0=some (r1,r2)):
  Calls Try.prog 111 #[.slice A0 l0.length c0] w fun e w'=> ∃ v0_:Value,e= .returned (.tuple #[v0_,.int .i64 r2])∧Kd.N k71 71 w' w.heap.size (fun k_=> (P0_ k_∨w.heap.size≤k_)) v0_ r1∧Below w.heap.size w w':=by
 have hu71:=Try.underlying71
 have HO0:=zA (show Kd.V k71 71 w w.heap.size (fun k_=> (P0_ k_∨w.heap.size≤k_)) (.slice A0 l0.length c0) l0 from Kd.V_mono hs0 (fun k_ hk=> .inl hk))
 have HB:=zA (Below.refl w.heap.size w)
 have H:(if(l0.length:Int) < 1 then(bL.j0 k l0 true)else(bL.j0 k l0 (decide ((l0.length:Int) > 8))))=some (r1,r2):=h
 clear h
 have HC2:=zA H
 clear H
 go_enter Try.func111,Try.ntmps111
 go_upto_region 1 with(fail)
 go_cut[14] (fun v14 wc=> ∃ (kq:Nat) (x14_1:Bool),v14= .bool x14_1∧Aside0 (bL.j0 kq l0 x14_1=some (r1,r2))∧Aside0 (kq≤k)∧Aside0 (Kd.V k71 71 wc w.heap.size (fun k_=> (P0_ k_∨w.heap.size≤k_)) (.slice A0 l0.length c0) l0)∧Aside0 (Below w.heap.size w wc))
 case first=>
  have H:=HC2.out;clear HC2;by_cases c3:(l0.length:Int) < 1
  ·rw[if_pos c3] at H
   have c3b0:=zFq c3;have c3b1:decide (l0.length < 1)=true:=zFq (by omega);clear c3;(first|rw[c3b0] |(simp only[i64_w,i32_w];rw[c3b0])|skip)
   have H':=zA H;clear H;go_wp2;go_meet
   case rel=>exact⟨_,(true),qF_,H',⟨by first|omega|exact Nat.le_refl _⟩,⟨qV_ HO0.out⟩,⟨qB⟩⟩
  rw[if_neg c3] at H;have c3b0:=zGq c3;have c3b1:decide (l0.length < 1)=false:=zGq (by omega);clear c3;(first|rw[c3b0] |(simp only[i64_w,i32_w];rw[c3b0])|skip)
  have H':=zA H;clear H;go_wp2;go_meet
  case rel=>exact⟨_,(decide ((l0.length:Int) > 8)),qF_,H',⟨by first|omega|exact Nat.le_refl _⟩,⟨qV_ HO0.out⟩,⟨qB⟩⟩
 case rest=>
  clear HC2;try clear c1
  try clear p2
  try clear c3
  try clear c3b0
  try clear c3b1
  obtain⟨kq,x14_1,rfl,HA,HJ1,HO_0,HB⟩:=hcut;cases kq with
  |zero=>exact absurd HA.out (by simp[bL.j0])
  |succ kj1=>
   have H:=HA.out;clear HA;simp only[bL.j0] at H;by_cases c4:x14_1=true
   ·subst c4
    have H1:(some (([] :List (S71)),2))=some (r1,r2):=by first|(rw[if_pos rfl] at H;exact H)|rfl
    clear H;have H:=H1;clear H1;simp only[zNq,zOq] at H;obtain⟨rfl,rfl⟩:=H;go_wp2;go_ret2;exact⟨_,qE,by first|exact Kd.S_nil _ _ _ _ _|exact Kd.N_nil _ _ _ _ _|exact Kd.V_nil _ _ _ _ _|exact Kd.Q_nil _ _ _ _ _|exact Kd.R_nil _ _ _ _ _,qB⟩
   replace c4:=Bool.eq_false_iff.mpr c4;subst c4;have H1:((dD.f l0).bind fun t101=> (bL.l0 kj1 t101 (t101.length:Int) 0))=some (r1,r2):=by first|(rw[if_neg (show ¬ (false=true) by decide)] at H;exact H)|rfl
   clear H;have H:=H1;clear H1;obtain⟨t101,A5,H⟩:=qD_ H;(try dsimp only at H);have H':=zA H;clear H;go_wp2_with (first|((with_reducible refine zJq (f:=141) rfl ?_);refine goesL_ (some 16) rfl rfl Try.func141 (by kernel_rfl) rfl #[.slice A0 l0.length c0] rfl qG ?_;(with_reducible refine(dD.calls (fun k_=> (P0_ k_∨w.heap.size≤k_)) _ _ l0 t101 _ ?side1 A5.out).mono ?_);(case side1=>exact HO_0.out);rintro e w6 ⟨v102,rfl,ho0,hb⟩;refine⟨_,rfl,?_⟩;replace HO_0:=zA (Kd.V_elder' (qV_ HO_0.out) (Kd.N_base ho0) hb);have HO103:=zA (Kd.N_lower (Kd.N_mono (ok':=fun k_=> (P0_ k_∨w.heap.size≤k_)) ho0 (fun k_ hk_=>Or.elim hk_ (fun hs_=>hs_) (fun hn_=> (.inr (Nat.le_trans (zW qB) hn_))))) (zW qB));replace HB:=zA (zV qB hb);(try clear hb);(try clear ho0);obtain⟨Ao7,co7,eo7⟩:=Kd.N_slice HO103.out;subst eo7));go_loopg[19] kj1 (fun kq v19 w'=> ∃ (x4_2:List (S71)) (x19_2:Int),v19= .int .i64 x19_2∧Aside0 (bL.l0 kq x4_2 (t101.length:Int) x19_2=some (r1,r2))∧Aside0 (kq≤kj1)∧Aside0 (Kd.N k71 71 w' w.heap.size (fun k_=> (P0_ k_∨w.heap.size≤k_)) (.slice Ao7 t101.length co7) x4_2)∧Aside0 (Below w.heap.size w w'))
   case atStart=>exact⟨(t101),(0),qF_,H',⟨Nat.le_refl _⟩,⟨qN_ HO103.out⟩,⟨qB⟩⟩
   case round=>
    clear H';try clear c1
    try clear p2
    try clear c3
    try clear c3b0
    try clear c3b1
    try clear c4
    try clear p2
    obtain⟨x4_2,x19_2,rfl,HA,HK2,HO_4,HB⟩:=hrel;have hl4_2:=(Kd.N_reads' HO_4.out).1;rw[hl4_2] at HO_4;(try simp only[hl4_2])
    cases gk with
    |zero=>exact absurd HA.out (by simp[bL.l0])
    |succ k2=>
     have H:=HA.out;clear HA;simp only[bL.l0] at H;by_cases c8:x19_2 < (t101.length:Int)
     ·rw[if_pos c8] at H
      have c8b0:=zFq c8;clear c8;by_cases c9:0≤x19_2
      ·rw[if_pos c9] at H
       have c9b0:=zFq c9;clear c9;by_cases c10:x19_2 < (x4_2.length:Int)
       ·rw[if_pos c10] at H
        have c10b0:=zFq c10;clear c10;obtain⟨y104,hy104⟩: ∃ y_:List (S71),y_=(x4_2.set (x19_2:Int).toNat (⟨(rd_T71 x4_2 x19_2).f0,(rd_T71 x4_2 x19_2).f1,0,(rd_T71 x4_2 x19_2).f3,(rd_T71 x4_2 x19_2).f4⟩:S71)):=⟨_,rfl⟩
        replace H:((some (y104.set (x19_2:Int).toNat (⟨(rd_T71 y104 x19_2).f0,(rd_T71 y104 x19_2).f1,(rd_T71 y104 x19_2).f2,0,(rd_T71 y104 x19_2).f4⟩:S71):List (S71))).bind fun y105=> ((bJ.f k2 ((rd_T71 y105 x19_2).f0) ((rd_T71 y105 x19_2).f1) ((rd_T71 y105 x19_2).f2) ((rd_T71 y105 x19_2).f3) ((rd_T71 y105 x19_2).f4)).bind fun t107=> (if t107=0 then(bL.l0 k2 y105 (t101.length:Int) (wrap64 (x19_2+1)))else(some (([] :List (S71)),t107)))))=some (r1,r2):=by first|(rw[hy104];with_reducible exact H)|(have H2_:=(Option.bind_some _ _).symm.trans H;rw[hy104];with_reducible exact H2_)|(have H2_:=(Option.bind_some _ _).symm.trans H;with_reducible exact H2_)|with_reducible exact H|(rw[hy104];exact H)|exact H
        have Ny104:=zA hy104;clear hy104;obtain⟨y105,hy105⟩: ∃ y_:List (S71),y_=(y104.set (x19_2:Int).toNat (⟨(rd_T71 y104 x19_2).f0,(rd_T71 y104 x19_2).f1,(rd_T71 y104 x19_2).f2,0,(rd_T71 y104 x19_2).f4⟩:S71)):=⟨_,rfl⟩
        replace H:((bJ.f k2 ((rd_T71 y105 x19_2).f0) ((rd_T71 y105 x19_2).f1) ((rd_T71 y105 x19_2).f2) ((rd_T71 y105 x19_2).f3) ((rd_T71 y105 x19_2).f4)).bind fun t107=> (if t107=0 then(bL.l0 k2 y105 (t101.length:Int) (wrap64 (x19_2+1)))else(some (([] :List (S71)),t107))))=some (r1,r2):=by first|(rw[hy105];with_reducible exact H)|(have H2_:=(Option.bind_some _ _).symm.trans H;rw[hy105];with_reducible exact H2_)|(have H2_:=(Option.bind_some _ _).symm.trans H;with_reducible exact H2_)|with_reducible exact H|(rw[hy105];exact H)|exact H
        have Ny105:=zA hy105;clear hy105;obtain⟨t107,A13,H⟩:=qD_ H;(try dsimp only at H);by_cases c14:t107=0
        ·rw[if_pos c14] at H
         have c14b0:(t107==0)=true:=beq_iff_eq.mpr c14;have c14b1:(t107 != 0)=false:=bne_eq_false_iff_eq.mpr c14;clear c14;have H':=zA H;clear H;have p11:0≤(x19_2:Int):=qO_;have q11:(x19_2:Int) < ((x4_2.length:Int):Int):=qO_;obtain⟨go11,co11,eo11,gb11,gl11,cl11,HG11⟩:=Kd.N_form HO_4.out (by omega);(first|cases eo11|(injection eo11 with ea_ en_ ec_;(first|subst ea_|(injection ea_ with ea_;subst ea_));subst ec_;clear en_))
         have GB11:=zA gb11;have GG11:=zA HG11;clear gb11 gl11 HG11;obtain⟨ce11,hcl11,hM11,hcc11,hfr11⟩:=Kd.N_elem HO_4.out z71 (x19_2:Int) p11 q11;obtain⟨ua11_4,uc11_4,rfl,ul11_4,ge11_4⟩:=k71_openF hM11;have hx11_0:wr.cell? ⟨go11,(x19_2:Int).toNat * 5,none⟩=some (.int .i64 ((rd_T71 x4_2 x19_2).f0)):=hcc11 0 _ rfl;have hx11_1:wr.cell? ⟨go11,(x19_2:Int).toNat * 5+1,none⟩=some (.int .i64 ((rd_T71 x4_2 x19_2).f1)):=hcc11 1 _ rfl;have hx11_2:wr.cell? ⟨go11,(x19_2:Int).toNat * 5+2,none⟩=some (.int .i64 ((rd_T71 x4_2 x19_2).f2)):=hcc11 2 _ rfl;have hx11_3:wr.cell? ⟨go11,(x19_2:Int).toNat * 5+3,none⟩=some (.int .i64 ((rd_T71 x4_2 x19_2).f3)):=hcc11 3 _ rfl;have hx11_4:wr.cell? ⟨go11,(x19_2:Int).toNat * 5+4,none⟩=some (.slice ua11_4 ((rd_T71 x4_2 x19_2).f4).length uc11_4):=hcc11 4 _ rfl;have hf11_0:wr.frozen? ⟨go11,(x19_2:Int).toNat * 5,none⟩=false:=hfr11 0;have hf11_1:wr.frozen? ⟨go11,(x19_2:Int).toNat * 5+1,none⟩=false:=hfr11 1;have hf11_2:wr.frozen? ⟨go11,(x19_2:Int).toNat * 5+2,none⟩=false:=hfr11 2;have hf11_3:wr.frozen? ⟨go11,(x19_2:Int).toNat * 5+3,none⟩=false:=hfr11 3;have hf11_4:wr.frozen? ⟨go11,(x19_2:Int).toNat * 5+4,none⟩=false:=hfr11 4;clear hcl11 hcc11 hfr11 hM11;replace p11:=eq_true p11;replace q11:=eq_true q11;have HX15:=zA (show Kd.N k71 71 wr w.heap.size (fun k_=> (P0_ k_∨w.heap.size≤k_)) (.slice (some ⟨go11,0,none⟩) x4_2.length co7) x4_2 from(qN_ HO_4.out));obtain⟨ce15,hcl15,hM15,hcc15,hfr15⟩:=Kd.N_elem HX15.out z71 (x19_2:Int) (qO_) (by have h_:(x19_2:Int) < ((x4_2.length:Int):Int):=qO_;first|exact h_|(have e_:=(Kd.N_reads' HO_4.out).1;omega)|simpa using h_);obtain⟨ua15_4,uc15_4,rfl,ul15_4,ge15_4⟩:=k71_openF hM15;have HP15:=Kd.N_seg HX15.out (x19_2:Int) (qO_) (by have h_:(x19_2:Int) < ((x4_2.length:Int):Int):=qO_;first|exact h_|(have e_:=(Kd.N_reads' HO_4.out).1;omega)|simpa using h_) (seg:=[.int .i64 0]) (j:=2) hcl15 hcc15 (show 3≤5 from by decide) (x':=(⟨(rd_T71 x4_2 x19_2).f0,(rd_T71 x4_2 x19_2).f1,0,(rd_T71 x4_2 x19_2).f3,(rd_T71 x4_2 x19_2).f4⟩:S71)) (k71_mkF _ _ (⟨(rd_T71 x4_2 x19_2).f0,(rd_T71 x4_2 x19_2).f1,0,(rd_T71 x4_2 x19_2).f3,(rd_T71 x4_2 x19_2).f4⟩:S71) ul15_4 ge15_4) (fun _ hk=>hk);have hx15_2:=hcc15 2 _ rfl;(try simp only[show(k71).sz=5 from rfl,Nat.mul_one,Nat.add_zero] at hx15_2)
         have hf15_2:=hfr15 2;(try simp only[show(k71).sz=5 from rfl,Nat.mul_one,Nat.add_zero] at hf15_2)
         clear hcl15 hcc15 hfr15 hM15;go_wp2_with (first|((with_reducible refine gate_store (t:=3) (p:=27) rfl ?_);refine store_event (t:=3) (p:=27) (v:=?vo_w16) (w1:=(wr.setCell ⟨go11,(x19_2:Int).toNat * 5+2,none⟩ (.int .i64 0))) ?hg ?ho ?hn ?hr ?_;(case ho=>rfl);(case hg=>rfl);(case hn=>rfl);(case hr=>first|(go_simp;done)|(go_simp;rfl));intro w16 hw;have hg:wr.grownBy w16 (some go11):=(by rw[hw];exact HP15.2);have hp_:Kd.N k71 71 w16 w.heap.size (fun k_=> (P0_ k_∨w.heap.size≤k_)) (.slice (some ⟨go11,0,none⟩) x4_2.length co7) y104:=(by rw[hw,Ny104.out];exact HP15.1);clear HP15;replace HO_4:=zA (hp_);replace HB:=zA ((by rw[hw];exact zE (HB.out) GB11.out:Below w.heap.size w w16));clear hg hw hp_;have p12:0≤(x19_2:Int):=qO_;have q12:(x19_2:Int) < ((x4_2.length:Int):Int):=qO_;obtain⟨ce12,hcl12,hM12,hcc12,hfr12⟩:=Kd.N_elem HO_4.out z71 (x19_2:Int) p12 q12;obtain⟨ua12_4,uc12_4,rfl,ul12_4,ge12_4⟩:=k71_openF hM12;have hx12_0:w16.cell? ⟨go11,(x19_2:Int).toNat * 5,none⟩=some (.int .i64 ((rd_T71 y104 x19_2).f0)):=hcc12 0 _ rfl;have hx12_1:w16.cell? ⟨go11,(x19_2:Int).toNat * 5+1,none⟩=some (.int .i64 ((rd_T71 y104 x19_2).f1)):=hcc12 1 _ rfl;have hx12_2:w16.cell? ⟨go11,(x19_2:Int).toNat * 5+2,none⟩=some (.int .i64 ((rd_T71 y104 x19_2).f2)):=hcc12 2 _ rfl;have hx12_3:w16.cell? ⟨go11,(x19_2:Int).toNat * 5+3,none⟩=some (.int .i64 ((rd_T71 y104 x19_2).f3)):=hcc12 3 _ rfl;have hx12_4:w16.cell? ⟨go11,(x19_2:Int).toNat * 5+4,none⟩=some (.slice ua12_4 ((rd_T71 y104 x19_2).f4).length uc12_4):=hcc12 4 _ rfl;have hf12_0:w16.frozen? ⟨go11,(x19_2:Int).toNat * 5,none⟩=false:=hfr12 0;have hf12_1:w16.frozen? ⟨go11,(x19_2:Int).toNat * 5+1,none⟩=false:=hfr12 1;have hf12_2:w16.frozen? ⟨go11,(x19_2:Int).toNat * 5+2,none⟩=false:=hfr12 2;have hf12_3:w16.frozen? ⟨go11,(x19_2:Int).toNat * 5+3,none⟩=false:=hfr12 3;have hf12_4:w16.frozen? ⟨go11,(x19_2:Int).toNat * 5+4,none⟩=false:=hfr12 4;clear hcl12 hcc12 hfr12 hM12;replace p12:=eq_true p12;replace q12:=eq_true q12;have HX17:=zA (show Kd.N k71 71 w16 w.heap.size (fun k_=> (P0_ k_∨w.heap.size≤k_)) (.slice (some ⟨go11,0,none⟩) x4_2.length co7) y104 from(qN_ HO_4.out));obtain⟨ce17,hcl17,hM17,hcc17,hfr17⟩:=Kd.N_elem HX17.out z71 (x19_2:Int) (qO_) (by have h_:(x19_2:Int) < ((x4_2.length:Int):Int):=qO_;first|exact h_|(have e_:=(Kd.N_reads' HO_4.out).1;omega)|simpa using h_);obtain⟨ua17_4,uc17_4,rfl,ul17_4,ge17_4⟩:=k71_openF hM17;have HP17:=Kd.N_seg HX17.out (x19_2:Int) (qO_) (by have h_:(x19_2:Int) < ((x4_2.length:Int):Int):=qO_;first|exact h_|(have e_:=(Kd.N_reads' HO_4.out).1;omega)|simpa using h_) (seg:=[.int .i64 0]) (j:=3) hcl17 hcc17 (show 4≤5 from by decide) (x':=(⟨(rd_T71 y104 x19_2).f0,(rd_T71 y104 x19_2).f1,(rd_T71 y104 x19_2).f2,0,(rd_T71 y104 x19_2).f4⟩:S71)) (k71_mkF _ _ (⟨(rd_T71 y104 x19_2).f0,(rd_T71 y104 x19_2).f1,(rd_T71 y104 x19_2).f2,0,(rd_T71 y104 x19_2).f4⟩:S71) ul17_4 ge17_4) (fun _ hk=>hk);have hx17_3:=hcc17 3 _ rfl;(try simp only[show(k71).sz=5 from rfl,Nat.mul_one,Nat.add_zero] at hx17_3);have hf17_3:=hfr17 3;(try simp only[show(k71).sz=5 from rfl,Nat.mul_one,Nat.add_zero] at hf17_3);clear hcl17 hcc17 hfr17 hM17)|((with_reducible refine gate_store (t:=3) (p:=29) rfl ?_);refine store_event (t:=3) (p:=29) (v:=?vo_w18) (w1:=(w16.setCell ⟨go11,(x19_2:Int).toNat * 5+3,none⟩ (.int .i64 0))) ?hg ?ho ?hn ?hr ?_;(case ho=>rfl);(case hg=>rfl);(case hn=>rfl);(case hr=>first|(go_simp;done)|(go_simp;rfl));intro w18 hw;have hg:w16.grownBy w18 (some go11):=(by rw[hw];exact HP17.2);have hp_:Kd.N k71 71 w18 w.heap.size (fun k_=> (P0_ k_∨w.heap.size≤k_)) (.slice (some ⟨go11,0,none⟩) x4_2.length co7) y105:=(by rw[hw,Ny105.out];exact HP17.1);clear HP17;replace HO_4:=zA (hp_);replace HB:=zA ((by rw[hw];exact zE (HB.out) GB11.out:Below w.heap.size w w18));clear hg hw hp_;have p106:0≤(x19_2:Int):=qO_;have q106:x19_2 < (y105.length:Int):=(by have h_:(x19_2:Int) < ((x4_2.length:Int):Int):=qO_;first|(have e_:=(Kd.N_reads' HO_4.out).1;omega)|simpa only[Ny104.out,Ny105.out,List.length_set] using h_);have ql106:((x19_2:Int) < ((x4_2.length:Int):Int))=True:=eq_true (qO_);obtain⟨ad106,A106_4,c106_4,e106,hx106_0,hx106_1,hx106_2,hx106_3,hx106_4,hl106_4,hi106_4⟩:=at_T71 (Kd.N_reads' HO_4.out).2.2 x19_2 p106 q106;obtain rfl:(⟨go11,0,none⟩:Addr)=ad106:=(by injection e106);obtain⟨ce106,hce106,hMe106,hcc106⟩:=Kd.N_get HO_4.out z71 x19_2 p106 (by first|exact q106|exact qO_|(have e_:=(Kd.N_reads' HO_4.out).1;omega));obtain⟨ua106_4,uc106_4,rfl,ul106_4,ge106_4⟩:=k71_openF hMe106;have hv106_4:=hcc106 4 _ rfl;rw[add_field _ _ 4 (by omega)] at hv106_4;replace hv106_4:=zKq (hv106_4.symm.trans hx106_4);injection hv106_4 with hva_ hvn_ hvc_;rw[hva_] at ge106_4;rw[hvc_] at ul106_4;have HL106_4:=zA (show Kd.V Kd.string 9 _ w.heap.size _ _ ((rd_T71 y105 x19_2).f4)from Kd.V_mk ul106_4 ge106_4);clear hva_ hvn_ hvc_ ge106_4 ul106_4 hcc106 hce106;(first|simp only[add_plain] at hx106_0|simp only[add_at] at hx106_0|simp only[Addr.add,Nat.zero_add] at hx106_0|skip);(first|simp only[add_plain] at hx106_1|simp only[add_at] at hx106_1|simp only[Addr.add,Nat.zero_add] at hx106_1|skip);(first|simp only[add_plain] at hx106_2|simp only[add_at] at hx106_2|simp only[Addr.add,Nat.zero_add] at hx106_2|skip);(first|simp only[add_plain] at hx106_3|simp only[add_at] at hx106_3|simp only[Addr.add,Nat.zero_add] at hx106_3|skip);(first|simp only[add_plain] at hx106_4|simp only[add_at] at hx106_4|simp only[Addr.add,Nat.zero_add] at hx106_4|skip);have HR106_4:=zA hi106_4;have HC106_4:=zA hl106_4;clear hi106_4 hl106_4;replace p106:=eq_true p106;replace q106:=eq_true q106)|((with_reducible refine zJq (f:=69) rfl ?_);refine goesL_ (some 34) rfl rfl Try.func69 (by kernel_rfl) rfl #[.agg #[.int .i64 ((rd_T71 y105 x19_2).f0),.int .i64 ((rd_T71 y105 x19_2).f1),.int .i64 ((rd_T71 y105 x19_2).f2),.int .i64 ((rd_T71 y105 x19_2).f3),.slice A106_4 ((rd_T71 y105 x19_2).f4).length c106_4]] rfl qG ?_;(with_reducible refine(bJ.calls k2 ((rd_T71 y105 x19_2).f0) ((rd_T71 y105 x19_2).f1) ((rd_T71 y105 x19_2).f2) ((rd_T71 y105 x19_2).f3) _ _ ((rd_T71 y105 x19_2).f4) t107 _ ?side1 ?side2 A13.out).mono ?_);(case side1=>repeat(first|exact(by repeat(first|(with_reducible exact HR106_4.out)|(with_reducible refine Kd.C_alloc ?_ _)|(with_reducible refine Kd.C_drewN ?_ _)|(with_reducible refine Kd.C_drew ?_)|exact HR106_4.out))|(with_reducible refine Kd.C_alloc ?_ _)|(with_reducible refine Kd.C_drewN ?_ _)|(with_reducible refine Kd.C_drew ?_)));(case side2=>exact HC106_4.out);rintro e w19 ⟨rfl,hb⟩;refine⟨_,rfl,?_⟩;replace HO_4:=zA (Kd.N_below (qN_ HO_4.out) hb);replace HL106_4:=zA (Kd.V_below (qV_ HL106_4.out) hb);replace HR106_4:=zA (Kd.C_below (by repeat(first|(with_reducible exact HR106_4.out)|(with_reducible refine Kd.C_alloc ?_ _)|(with_reducible refine Kd.C_drewN ?_ _)|(with_reducible refine Kd.C_drew ?_)|exact HR106_4.out)) hb);replace HB:=zA (zV qB hb);(try clear hb)))
         (try simp only[←hl4_2])
         go_roundg k2
         case measure=>have:=HJ1.out;have:=HK2.out;omega
         case rel=>exact⟨(y105),(wrap64 (x19_2+1)),qF_,H',⟨by have:=HJ1.out;have:=HK2.out;omega⟩,⟨by(try simp only[hl4_2]);(with_reducible repeat(first|apply Kd.N_alloc|apply Kd.N_drewN|apply Kd.N_drew));exact HO_4.out⟩,⟨qB⟩⟩
        rw[if_neg c14] at H;have c14b0:(t107==0)=false:=beq_eq_false_iff_ne.mpr c14;have c14b1:(t107 != 0)=true:=bne_iff_ne.mpr c14;simp only[zNq,zOq] at H;obtain⟨rfl,rfl⟩:=H;have p11:0≤(x19_2:Int):=qO_;have q11:(x19_2:Int) < ((x4_2.length:Int):Int):=qO_;obtain⟨go11,co11,eo11,gb11,gl11,cl11,HG11⟩:=Kd.N_form HO_4.out (by omega);(first|cases eo11|(injection eo11 with ea_ en_ ec_;(first|subst ea_|(injection ea_ with ea_;subst ea_));subst ec_;clear en_))
        have GB11:=zA gb11;have GG11:=zA HG11;clear gb11 gl11 HG11;obtain⟨ce11,hcl11,hM11,hcc11,hfr11⟩:=Kd.N_elem HO_4.out z71 (x19_2:Int) p11 q11;obtain⟨ua11_4,uc11_4,rfl,ul11_4,ge11_4⟩:=k71_openF hM11;have hx11_0:wr.cell? ⟨go11,(x19_2:Int).toNat * 5,none⟩=some (.int .i64 ((rd_T71 x4_2 x19_2).f0)):=hcc11 0 _ rfl;have hx11_1:wr.cell? ⟨go11,(x19_2:Int).toNat * 5+1,none⟩=some (.int .i64 ((rd_T71 x4_2 x19_2).f1)):=hcc11 1 _ rfl;have hx11_2:wr.cell? ⟨go11,(x19_2:Int).toNat * 5+2,none⟩=some (.int .i64 ((rd_T71 x4_2 x19_2).f2)):=hcc11 2 _ rfl;have hx11_3:wr.cell? ⟨go11,(x19_2:Int).toNat * 5+3,none⟩=some (.int .i64 ((rd_T71 x4_2 x19_2).f3)):=hcc11 3 _ rfl;have hx11_4:wr.cell? ⟨go11,(x19_2:Int).toNat * 5+4,none⟩=some (.slice ua11_4 ((rd_T71 x4_2 x19_2).f4).length uc11_4):=hcc11 4 _ rfl;have hf11_0:wr.frozen? ⟨go11,(x19_2:Int).toNat * 5,none⟩=false:=hfr11 0;have hf11_1:wr.frozen? ⟨go11,(x19_2:Int).toNat * 5+1,none⟩=false:=hfr11 1;have hf11_2:wr.frozen? ⟨go11,(x19_2:Int).toNat * 5+2,none⟩=false:=hfr11 2;have hf11_3:wr.frozen? ⟨go11,(x19_2:Int).toNat * 5+3,none⟩=false:=hfr11 3;have hf11_4:wr.frozen? ⟨go11,(x19_2:Int).toNat * 5+4,none⟩=false:=hfr11 4;clear hcl11 hcc11 hfr11 hM11;replace p11:=eq_true p11;replace q11:=eq_true q11;have HX20:=zA (show Kd.N k71 71 wr w.heap.size (fun k_=> (P0_ k_∨w.heap.size≤k_)) (.slice (some ⟨go11,0,none⟩) x4_2.length co7) x4_2 from(qN_ HO_4.out));obtain⟨ce20,hcl20,hM20,hcc20,hfr20⟩:=Kd.N_elem HX20.out z71 (x19_2:Int) (qO_) (by have h_:(x19_2:Int) < ((x4_2.length:Int):Int):=qO_;first|exact h_|(have e_:=(Kd.N_reads' HO_4.out).1;omega)|simpa using h_);obtain⟨ua20_4,uc20_4,rfl,ul20_4,ge20_4⟩:=k71_openF hM20;have HP20:=Kd.N_seg HX20.out (x19_2:Int) (qO_) (by have h_:(x19_2:Int) < ((x4_2.length:Int):Int):=qO_;first|exact h_|(have e_:=(Kd.N_reads' HO_4.out).1;omega)|simpa using h_) (seg:=[.int .i64 0]) (j:=2) hcl20 hcc20 (show 3≤5 from by decide) (x':=(⟨(rd_T71 x4_2 x19_2).f0,(rd_T71 x4_2 x19_2).f1,0,(rd_T71 x4_2 x19_2).f3,(rd_T71 x4_2 x19_2).f4⟩:S71)) (k71_mkF _ _ (⟨(rd_T71 x4_2 x19_2).f0,(rd_T71 x4_2 x19_2).f1,0,(rd_T71 x4_2 x19_2).f3,(rd_T71 x4_2 x19_2).f4⟩:S71) ul20_4 ge20_4) (fun _ hk=>hk);have hx20_2:=hcc20 2 _ rfl;(try simp only[show(k71).sz=5 from rfl,Nat.mul_one,Nat.add_zero] at hx20_2)
        have hf20_2:=hfr20 2;(try simp only[show(k71).sz=5 from rfl,Nat.mul_one,Nat.add_zero] at hf20_2)
        clear hcl20 hcc20 hfr20 hM20;go_wp2_with (first|((with_reducible refine gate_store (t:=3) (p:=27) rfl ?_);refine store_event (t:=3) (p:=27) (v:=?vo_w21) (w1:=(wr.setCell ⟨go11,(x19_2:Int).toNat * 5+2,none⟩ (.int .i64 0))) ?hg ?ho ?hn ?hr ?_;(case ho=>rfl);(case hg=>rfl);(case hn=>rfl);(case hr=>first|(go_simp;done)|(go_simp;rfl));intro w21 hw;have hg:wr.grownBy w21 (some go11):=(by rw[hw];exact HP20.2);have hp_:Kd.N k71 71 w21 w.heap.size (fun k_=> (P0_ k_∨w.heap.size≤k_)) (.slice (some ⟨go11,0,none⟩) x4_2.length co7) y104:=(by rw[hw,Ny104.out];exact HP20.1);clear HP20;replace HO_4:=zA (hp_);replace HB:=zA ((by rw[hw];exact zE (HB.out) GB11.out:Below w.heap.size w w21));clear hg hw hp_;have p12:0≤(x19_2:Int):=qO_;have q12:(x19_2:Int) < ((x4_2.length:Int):Int):=qO_;obtain⟨ce12,hcl12,hM12,hcc12,hfr12⟩:=Kd.N_elem HO_4.out z71 (x19_2:Int) p12 q12;obtain⟨ua12_4,uc12_4,rfl,ul12_4,ge12_4⟩:=k71_openF hM12;have hx12_0:w21.cell? ⟨go11,(x19_2:Int).toNat * 5,none⟩=some (.int .i64 ((rd_T71 y104 x19_2).f0)):=hcc12 0 _ rfl;have hx12_1:w21.cell? ⟨go11,(x19_2:Int).toNat * 5+1,none⟩=some (.int .i64 ((rd_T71 y104 x19_2).f1)):=hcc12 1 _ rfl;have hx12_2:w21.cell? ⟨go11,(x19_2:Int).toNat * 5+2,none⟩=some (.int .i64 ((rd_T71 y104 x19_2).f2)):=hcc12 2 _ rfl;have hx12_3:w21.cell? ⟨go11,(x19_2:Int).toNat * 5+3,none⟩=some (.int .i64 ((rd_T71 y104 x19_2).f3)):=hcc12 3 _ rfl;have hx12_4:w21.cell? ⟨go11,(x19_2:Int).toNat * 5+4,none⟩=some (.slice ua12_4 ((rd_T71 y104 x19_2).f4).length uc12_4):=hcc12 4 _ rfl;have hf12_0:w21.frozen? ⟨go11,(x19_2:Int).toNat * 5,none⟩=false:=hfr12 0;have hf12_1:w21.frozen? ⟨go11,(x19_2:Int).toNat * 5+1,none⟩=false:=hfr12 1;have hf12_2:w21.frozen? ⟨go11,(x19_2:Int).toNat * 5+2,none⟩=false:=hfr12 2;have hf12_3:w21.frozen? ⟨go11,(x19_2:Int).toNat * 5+3,none⟩=false:=hfr12 3;have hf12_4:w21.frozen? ⟨go11,(x19_2:Int).toNat * 5+4,none⟩=false:=hfr12 4;clear hcl12 hcc12 hfr12 hM12;replace p12:=eq_true p12;replace q12:=eq_true q12;have HX22:=zA (show Kd.N k71 71 w21 w.heap.size (fun k_=> (P0_ k_∨w.heap.size≤k_)) (.slice (some ⟨go11,0,none⟩) x4_2.length co7) y104 from(qN_ HO_4.out));obtain⟨ce22,hcl22,hM22,hcc22,hfr22⟩:=Kd.N_elem HX22.out z71 (x19_2:Int) (qO_) (by have h_:(x19_2:Int) < ((x4_2.length:Int):Int):=qO_;first|exact h_|(have e_:=(Kd.N_reads' HO_4.out).1;omega)|simpa using h_);obtain⟨ua22_4,uc22_4,rfl,ul22_4,ge22_4⟩:=k71_openF hM22;have HP22:=Kd.N_seg HX22.out (x19_2:Int) (qO_) (by have h_:(x19_2:Int) < ((x4_2.length:Int):Int):=qO_;first|exact h_|(have e_:=(Kd.N_reads' HO_4.out).1;omega)|simpa using h_) (seg:=[.int .i64 0]) (j:=3) hcl22 hcc22 (show 4≤5 from by decide) (x':=(⟨(rd_T71 y104 x19_2).f0,(rd_T71 y104 x19_2).f1,(rd_T71 y104 x19_2).f2,0,(rd_T71 y104 x19_2).f4⟩:S71)) (k71_mkF _ _ (⟨(rd_T71 y104 x19_2).f0,(rd_T71 y104 x19_2).f1,(rd_T71 y104 x19_2).f2,0,(rd_T71 y104 x19_2).f4⟩:S71) ul22_4 ge22_4) (fun _ hk=>hk);have hx22_3:=hcc22 3 _ rfl;(try simp only[show(k71).sz=5 from rfl,Nat.mul_one,Nat.add_zero] at hx22_3);have hf22_3:=hfr22 3;(try simp only[show(k71).sz=5 from rfl,Nat.mul_one,Nat.add_zero] at hf22_3);clear hcl22 hcc22 hfr22 hM22)|((with_reducible refine gate_store (t:=3) (p:=29) rfl ?_);refine store_event (t:=3) (p:=29) (v:=?vo_w23) (w1:=(w21.setCell ⟨go11,(x19_2:Int).toNat * 5+3,none⟩ (.int .i64 0))) ?hg ?ho ?hn ?hr ?_;(case ho=>rfl);(case hg=>rfl);(case hn=>rfl);(case hr=>first|(go_simp;done)|(go_simp;rfl));intro w23 hw;have hg:w21.grownBy w23 (some go11):=(by rw[hw];exact HP22.2);have hp_:Kd.N k71 71 w23 w.heap.size (fun k_=> (P0_ k_∨w.heap.size≤k_)) (.slice (some ⟨go11,0,none⟩) x4_2.length co7) y105:=(by rw[hw,Ny105.out];exact HP22.1);clear HP22;replace HO_4:=zA (hp_);replace HB:=zA ((by rw[hw];exact zE (HB.out) GB11.out:Below w.heap.size w w23));clear hg hw hp_;have p106:0≤(x19_2:Int):=qO_;have q106:x19_2 < (y105.length:Int):=(by have h_:(x19_2:Int) < ((x4_2.length:Int):Int):=qO_;first|(have e_:=(Kd.N_reads' HO_4.out).1;omega)|simpa only[Ny104.out,Ny105.out,List.length_set] using h_);have ql106:((x19_2:Int) < ((x4_2.length:Int):Int))=True:=eq_true (qO_);obtain⟨ad106,A106_4,c106_4,e106,hx106_0,hx106_1,hx106_2,hx106_3,hx106_4,hl106_4,hi106_4⟩:=at_T71 (Kd.N_reads' HO_4.out).2.2 x19_2 p106 q106;obtain rfl:(⟨go11,0,none⟩:Addr)=ad106:=(by injection e106);obtain⟨ce106,hce106,hMe106,hcc106⟩:=Kd.N_get HO_4.out z71 x19_2 p106 (by first|exact q106|exact qO_|(have e_:=(Kd.N_reads' HO_4.out).1;omega));obtain⟨ua106_4,uc106_4,rfl,ul106_4,ge106_4⟩:=k71_openF hMe106;have hv106_4:=hcc106 4 _ rfl;rw[add_field _ _ 4 (by omega)] at hv106_4;replace hv106_4:=zKq (hv106_4.symm.trans hx106_4);injection hv106_4 with hva_ hvn_ hvc_;rw[hva_] at ge106_4;rw[hvc_] at ul106_4;have HL106_4:=zA (show Kd.V Kd.string 9 _ w.heap.size _ _ ((rd_T71 y105 x19_2).f4)from Kd.V_mk ul106_4 ge106_4);clear hva_ hvn_ hvc_ ge106_4 ul106_4 hcc106 hce106;(first|simp only[add_plain] at hx106_0|simp only[add_at] at hx106_0|simp only[Addr.add,Nat.zero_add] at hx106_0|skip);(first|simp only[add_plain] at hx106_1|simp only[add_at] at hx106_1|simp only[Addr.add,Nat.zero_add] at hx106_1|skip);(first|simp only[add_plain] at hx106_2|simp only[add_at] at hx106_2|simp only[Addr.add,Nat.zero_add] at hx106_2|skip);(first|simp only[add_plain] at hx106_3|simp only[add_at] at hx106_3|simp only[Addr.add,Nat.zero_add] at hx106_3|skip);(first|simp only[add_plain] at hx106_4|simp only[add_at] at hx106_4|simp only[Addr.add,Nat.zero_add] at hx106_4|skip);have HR106_4:=zA hi106_4;have HC106_4:=zA hl106_4;clear hi106_4 hl106_4;replace p106:=eq_true p106;replace q106:=eq_true q106)|((with_reducible refine zJq (f:=69) rfl ?_);refine goesL_ (some 34) rfl rfl Try.func69 (by kernel_rfl) rfl #[.agg #[.int .i64 ((rd_T71 y105 x19_2).f0),.int .i64 ((rd_T71 y105 x19_2).f1),.int .i64 ((rd_T71 y105 x19_2).f2),.int .i64 ((rd_T71 y105 x19_2).f3),.slice A106_4 ((rd_T71 y105 x19_2).f4).length c106_4]] rfl qG ?_;(with_reducible refine(bJ.calls k2 ((rd_T71 y105 x19_2).f0) ((rd_T71 y105 x19_2).f1) ((rd_T71 y105 x19_2).f2) ((rd_T71 y105 x19_2).f3) _ _ ((rd_T71 y105 x19_2).f4) t107 _ ?side1 ?side2 A13.out).mono ?_);(case side1=>repeat(first|exact(by repeat(first|(with_reducible exact HR106_4.out)|(with_reducible refine Kd.C_alloc ?_ _)|(with_reducible refine Kd.C_drewN ?_ _)|(with_reducible refine Kd.C_drew ?_)|exact HR106_4.out))|(with_reducible refine Kd.C_alloc ?_ _)|(with_reducible refine Kd.C_drewN ?_ _)|(with_reducible refine Kd.C_drew ?_)));(case side2=>exact HC106_4.out);rintro e w24 ⟨rfl,hb⟩;refine⟨_,rfl,?_⟩;replace HO_4:=zA (Kd.N_below (qN_ HO_4.out) hb);replace HL106_4:=zA (Kd.V_below (qV_ HL106_4.out) hb);replace HR106_4:=zA (Kd.C_below (by repeat(first|(with_reducible exact HR106_4.out)|(with_reducible refine Kd.C_alloc ?_ _)|(with_reducible refine Kd.C_drewN ?_ _)|(with_reducible refine Kd.C_drew ?_)|exact HR106_4.out)) hb);replace HB:=zA (zV qB hb);(try clear hb)))
        go_ret2;exact⟨_,qE,by first|exact Kd.S_nil _ _ _ _ _|exact Kd.N_nil _ _ _ _ _|exact Kd.V_nil _ _ _ _ _|exact Kd.Q_nil _ _ _ _ _|exact Kd.R_nil _ _ _ _ _,qB⟩
       rw[if_neg c10] at H;exact absurd H (by simp)
      rw[if_neg c9] at H;exact absurd H (by simp)
     rw[if_neg c8] at H;have c8b0:decide (x19_2 < (x4_2.length:Int))=false:=zGq (by rw[←hl4_2];exact c8);clear c8;simp only[zNq,zOq] at H;obtain⟨rfl,rfl⟩:=H;go_wp2;go_ret2;exact⟨_,qE,qN_ HO_4.out,qB⟩
def bD.l0:Nat→List Int→Int→Int→Option (Int)
  |0,_,_,_=>none
  |k+1,x0,x3,x4=>if x4 < (x0.length:Int)then(if 0≤x4 then(bD.l0 k x0 (mx x3 (rd x0 x4)) (wrap64 (x4+1)))else(none))else(some x3)
def bD.f (k:Nat) (l0:List Int):Option (Int):=if(l0.length:Int) < 1 then(none)else(if 0 < (l0.length:Int)then(bD.l0 k l0 (rd l0 0) 1)else(none))
theorem bD.mono_l: ∀ k,(∀ y0 y1 y2,LeO (bD.l0 k y0 y1 y2) (bD.l0 (k+1) y0 y1 y2))
  |0=>fun _ _ _ r h=>by simp[bD.l0] at h
  |k+1=>by
    have ih0:=bD.mono_l k
    intro y0 y1 y2
    unfold bD.l0
    repeat' (with_reducible first|exact ih0 _ _ _|exact LeO.refl _|exact LeO.none _|refine LeO.ite ?_ ?_|refine LeO.bind ?_ (fun _=>?_))
theorem bD.mono: ∀ a0 k,LeO (bD.f k a0) (bD.f (k+1) a0):=by
  intro a0 k
  have ih0:=bD.mono_l k
  unfold bD.f
  repeat' (with_reducible first|exact ih0 _ _ _|exact LeO.refl _|exact LeO.none _|refine LeO.ite ?_ ?_|refine LeO.bind ?_ (fun _=>?_))
theorem bD.calls (k:Nat) (A0:Option Addr) (c0:Nat) (l0:List Int) (r:Int) (w:World) (hr0:Kd.C (Kd.int .i64) w A0 l0.length l0) (hc0:l0.length≤c0) (h:bD.f k l0=some r):
  Calls Try.prog 105 #[.slice A0 l0.length c0] w fun e w'=>e= .returned (.int .i64 r)∧Below w.heap.size w w':=by
 have HR0:=zA hr0
 have HC0:=zA hc0
 clear hr0 hc0
 have HB:=zA (Below.refl w.heap.size w)
 have H:(if(l0.length:Int) < 1 then(none)else(if 0 < (l0.length:Int)then(bD.l0 k l0 (rd l0 0) 1)else(none)))=some r:=h
 clear h
 by_cases c2:(l0.length:Int) < 1
 ·rw[if_pos c2] at H
  exact absurd H (by simp)
 rw[if_neg c2] at H
 have c2b0:=zGq c2
 have c2b1:decide (l0.length < 1)=false:=zGq (by omega)
 clear c2
 by_cases c3:0 < (l0.length:Int)
 ·rw[if_pos c3] at H
  have c3b0:=zFq c3;have c3b1:decide (0 < l0.length)=true:=zFq (by omega);clear c3;have H':=zA H;clear H;have p101:0≤(0:Int):=(by omega)
  have q101:0 < (l0.length:Int):=qO_;obtain⟨ad101,e101,hx101_0⟩:=Kd.at_int HR0.out 0 p101 q101;cases e101
  have qi101:(0 < l0.length)=True:=eq_true (by omega);(try rw[show((0:Int)).toNat=0 from rfl] at hx101_0)
  (try rw[Addr.add_zero'] at hx101_0)
  replace p101:=eq_true p101;replace q101:=eq_true q101;go_enter Try.func105,Try.ntmps105;go_wp2;go_loopg[3,4] k (fun kq v3 v4 w'=> ∃ (x3_1:Int) (x4_1:Int),v3= .int .i64 x3_1∧v4= .int .i64 x4_1∧Aside0 (bD.l0 kq l0 x3_1 x4_1=some r)∧Aside0 (kq≤k)∧Aside0 (Below w.heap.size w w'))
  case atStart=>exact⟨(rd l0 0),(1),qF_,qF_,H',⟨Nat.le_refl _⟩,⟨qB⟩⟩
  case round=>
   clear H';try clear c1
   try clear p1
   try clear q1
   try clear hx1
   try clear qi1
   try clear c2
   try clear c2b0
   try clear c2b1
   try clear p2
   try clear c3
   try clear c3b0
   try clear c3b1
   try clear hx101_0
   try clear p101
   try clear q101
   obtain⟨x3_1,x4_1,rfl,rfl,HA,HK1,HB⟩:=hrel;cases gk with
   |zero=>exact absurd HA.out (by simp[bD.l0])
   |succ k1=>
    have H:=HA.out;clear HA;simp only[bD.l0] at H;by_cases c4:x4_1 < (l0.length:Int)
    ·rw[if_pos c4] at H
     have c4b0:=zFq c4;clear c4;by_cases c5:0≤x4_1
     ·rw[if_pos c5] at H
      have c5b0:=zFq c5;clear c5;obtain⟨ji6,hji6⟩: ∃ j_:Int,(mx x3_1 (rd l0 x4_1))=j_:=⟨_,rfl⟩
      replace H:(bD.l0 k1 l0 ji6 (wrap64 (x4_1+1)))=some r:=by first|(rw[hji6] at H;exact H)|(simp only[hji6] at H⊢;exact H)
      have hji6_:(if x3_1 < (rd l0 x4_1)then(rd l0 x4_1)else x3_1)=ji6:=hji6;have H':=zA H;clear H;have p102:0≤(x4_1:Int):=qO_;have q102:x4_1 < (l0.length:Int):=qO_;obtain⟨ad102,e102,hx102_0⟩:=Kd.at_int HR0.out x4_1 p102 q102;obtain rfl:ad101=ad102:=(by injection e102)
      replace hx102_0:=qU_ hx102_0;replace p102:=eq_true p102;replace q102:=eq_true q102;go_wp2;go_roundg k1
      case measure=>have:=HK1.out;omega
      case rel=>exact⟨(ji6),(wrap64 (x4_1+1)),(by first|rfl|(simp;done)|(simp only[←hji6] <;> (first|rfl|simp))|(simp[*];done)),qF_,H',⟨by have:=HK1.out;omega⟩,⟨qB⟩⟩
     rw[if_neg c5] at H;exact absurd H (by simp)
    rw[if_neg c4] at H;have c4b0:=zGq c4;clear c4;obtain rfl:=zKq H;go_wp2;go_ret;exact⟨qE,qB⟩
 rw[if_neg c3] at H
 exact absurd H (by simp)
def bV.l0:Nat→List Int→Int→Int→Option (List Int)
  |0,_,_,_=>none
  |k+1,x3,x8,x9=>if x9 < x8 then(if 0≤x9 then(if x9 < (x3.length:Int)then(bV.l0 k (x3.set (x9:Int).toNat 1) x8 (wrap64 (x9+1)))else(none))else(none))else(some x3)
def bV.f (k:Nat) (a0:Int):Option (List Int):=if 0≤a0 then(if(a0:Int).toNat≤35184372088832 then((some (List.replicate (a0:Int).toNat 0:List Int)).bind fun y101=> (bV.l0 k y101 (y101.length:Int) 0))else(none))else(none)
theorem bV.mono_l: ∀ k,(∀ y0 y1 y2,LeO (bV.l0 k y0 y1 y2) (bV.l0 (k+1) y0 y1 y2))
  |0=>fun _ _ _ r h=>by simp[bV.l0] at h
  |k+1=>by
    have ih0:=bV.mono_l k
    intro y0 y1 y2
    unfold bV.l0
    repeat' (with_reducible first|exact ih0 _ _ _|exact LeO.refl _|exact LeO.none _|refine LeO.ite ?_ ?_|refine LeO.bind ?_ (fun _=>?_))
theorem bV.mono: ∀ a0 k,LeO (bV.f k a0) (bV.f (k+1) a0):=by
  intro a0 k
  have ih0:=bV.mono_l k
  unfold bV.f
  repeat' (with_reducible first|exact ih0 _ _ _|exact LeO.refl _|exact LeO.none _|refine LeO.ite ?_ ?_|refine LeO.bind ?_ (fun _=>?_))
theorem bV.calls (k:Nat) (a0:Int) (r:List Int) (w:World) (h:bV.f k a0=some r):
  Calls Try.prog 106 #[.int .i64 a0] w fun e w'=> ∃ v0_:Value,e= .returned (v0_)∧Kd.R (Kd.int .i64) 3 w' w.heap.size (fun _=>True) v0_ r∧Below w.heap.size w w':=by
 have HB:=zA (Below.refl w.heap.size w)
 have H:(if 0≤a0 then(if(a0:Int).toNat≤35184372088832 then((some (List.replicate (a0:Int).toNat 0:List Int)).bind fun y101=> (bV.l0 k y101 (y101.length:Int) 0))else(none))else(none))=some r:=h
 clear h
 by_cases c2:0≤a0
 ·rw[if_pos c2] at H
  have c2b0:=eq_true c2;have c2b1:=zFq c2;clear c2;by_cases c3:(a0:Int).toNat≤35184372088832
  ·rw[if_pos c3] at H
   have c3b0:=eq_true c3;have c3b1:=zFq c3;clear c3;obtain⟨y101,hy101⟩: ∃ y_:List Int,y_=(List.replicate (a0:Int).toNat 0):=⟨_,rfl⟩
   replace H:(bV.l0 k y101 (y101.length:Int) 0)=some r:=by first|(rw[hy101];with_reducible exact H)|(have H2_:=(Option.bind_some _ _).symm.trans H;rw[hy101];with_reducible exact H2_)|(have H2_:=(Option.bind_some _ _).symm.trans H;with_reducible exact H2_)|with_reducible exact H|(rw[hy101];exact H)|exact H
   have Ny101:=zA hy101;clear hy101;have H':=zA H;clear H;go_enter Try.func106,Try.ntmps106;go_wp2_with (first|((with_reducible refine gate_dst (N:=6) rfl ?_);refine Kd.R_make (Kd.int .i64) _ 3 rfl (N:=6) rfl 22 _ _ rfl a0 rfl rfl Try.underlying22 (.int .i64 0) 8 info3 rfl (by decide) (by omega) 0 (ok:=fun _=>True) (okp:=fun _=>True) rfl (fun _ hk=>hk) trivial (qO_) (Nat.le_trans (Nat.mul_le_mul_right _ (qO_:a0.toNat≤35184372088832)) (by omega)) (Below.refl _ _) (Nat.le_refl _) ?_;intro v102 w4 ho5 hb hg_ hnew_;clear hg_ hnew_;(first|rw[←Ny101.out] at ho5|(simp only[Int.reduceToNat] at ho5;rw[←Ny101.out] at ho5));have HO103:=zA (Kd.R_lower ho5 (zW qB));replace HB:=zA (zV qB hb);clear hb ho5;obtain⟨Ao6,co6,eo6⟩:=Kd.R_slice HO103.out;subst eo6));go_loopg[9] k (fun kq v9 w'=> ∃ (x3_1:List Int) (x9_1:Int),v9= .int .i64 x9_1∧Aside0 (bV.l0 kq x3_1 (y101.length:Int) x9_1=some r)∧Aside0 (kq≤k)∧Aside0 (Kd.R (Kd.int .i64) 3 w' w.heap.size (fun _=>True) (.slice Ao6 y101.length co6) x3_1)∧Aside0 (Below w.heap.size w w'))
   case atStart=>exact⟨(y101),(0),qF_,H',⟨Nat.le_refl _⟩,⟨qR_ HO103.out⟩,⟨qB⟩⟩
   case round=>
    clear H';try clear c1
    try clear c2
    try clear c2b0
    try clear c2b1
    try clear p2
    try clear c3
    try clear c3b0
    try clear c3b1
    obtain⟨x3_1,x9_1,rfl,HA,HK1,HO_3,HB⟩:=hrel;have hl3_1:=(Kd.R_reads' HO_3.out).1;rw[hl3_1] at HO_3;(try simp only[hl3_1])
    cases gk with
    |zero=>exact absurd HA.out (by simp[bV.l0])
    |succ k1=>
     have H:=HA.out;clear HA;simp only[bV.l0] at H;by_cases c7:x9_1 < (y101.length:Int)
     ·rw[if_pos c7] at H
      have c7b0:decide (x9_1 < (x3_1.length:Int))=true:=zFq (by rw[←hl3_1];exact c7);clear c7;by_cases c8:0≤x9_1
      ·rw[if_pos c8] at H
       have c8b0:=zFq c8;clear c8;by_cases c9:x9_1 < (x3_1.length:Int)
       ·rw[if_pos c9] at H
        have c9b0:=zFq c9;clear c9;obtain⟨y104,hy104⟩: ∃ y_:List Int,y_=(x3_1.set (x9_1:Int).toNat 1):=⟨_,rfl⟩
        replace H:(bV.l0 k1 y104 (y101.length:Int) (wrap64 (x9_1+1)))=some r:=by first|(rw[hy104];with_reducible exact H)|(have H2_:=(Option.bind_some _ _).symm.trans H;rw[hy104];with_reducible exact H2_)|(have H2_:=(Option.bind_some _ _).symm.trans H;with_reducible exact H2_)|with_reducible exact H|(rw[hy104];exact H)|exact H
        have Ny104:=zA hy104;clear hy104;have H':=zA H;clear H;have p10:0≤(x9_1:Int):=qO_;have q10:(x9_1:Int) < ((x3_1.length:Int):Int):=qO_;obtain⟨go10,co10,eo10,gb10,gl10,cl10,HG10⟩:=Kd.R_form HO_3.out (by omega);(first|cases eo10|(injection eo10 with ea_ en_ ec_;(first|subst ea_|(injection ea_ with ea_;subst ea_));subst ec_;clear en_))
        have GB10:=zA gb10;have GG10:=zA HG10;clear gb10 gl10 HG10;obtain⟨hx10_0,hf10_0⟩:=Kd.R_celln 0 HO_3.out (x9_1:Int) p10 q10;replace p10:=eq_true p10;replace q10:=eq_true q10;have HP11:=Kd.R_putg HO_3.out (x9_1:Int) 1;go_wp2_with (first|((with_reducible refine gate_store (t:=3) (p:=14) rfl ?_);refine store_event (t:=3) (p:=14) (v:=?vo_w12) (w1:=(wr.setCell ⟨go10,(x9_1:Int).toNat,none⟩ (.int .i64 1))) ?hg ?ho ?hn ?hr ?_;(case ho=>rfl);(case hg=>rfl);(case hn=>rfl);(case hr=>first|(go_simp;done)|(go_simp;rfl));intro w12 hw;have hg:wr.grownBy w12 (some go10):=(by rw[hw];exact HP11.2);have hp_:Kd.R (Kd.int .i64) 3 w12 w.heap.size (fun _=>True) (.slice (some ⟨go10,0,none⟩) x3_1.length co6) y104:=(by rw[hw,Ny104.out];exact HP11.1);clear HP11;replace HO_3:=zA (hp_);replace HB:=zA ((by rw[hw];exact zE (HB.out) GB10.out:Below w.heap.size w w12));clear hg hw hp_));(try simp only[←hl3_1])
        go_roundg k1
        case measure=>have:=HK1.out;omega
        case rel=>exact⟨(y104),(wrap64 (x9_1+1)),qF_,H',⟨by have:=HK1.out;omega⟩,⟨by(try simp only[hl3_1]);(with_reducible repeat(first|apply Kd.R_alloc|apply Kd.R_drewN|apply Kd.R_drew));exact HO_3.out⟩,⟨qB⟩⟩
       rw[if_neg c9] at H;exact absurd H (by simp)
      rw[if_neg c8] at H;exact absurd H (by simp)
     rw[if_neg c7] at H;have c7b0:decide (x9_1 < (x3_1.length:Int))=false:=zGq (by rw[←hl3_1];exact c7);clear c7;obtain rfl:=zKq H;go_wp2;go_ret;exact⟨_,qE,qR_ HO_3.out,qB⟩
  rw[if_neg c3] at H;exact absurd H (by simp)
 rw[if_neg c2] at H
 exact absurd H (by simp)
def bT.f (k:Nat) (a0:Int):Option (Int):=(bW.f k a0).bind fun t101=> (some (wrap64 (64 - t101)))
theorem bT.mono: ∀ a0 k,LeO (bT.f k a0) (bT.f (k+1) a0):=by
  intro a0 k
  unfold bT.f
  repeat' (with_reducible first|exact bW.mono _ _|exact LeO.refl _|exact LeO.none _|refine LeO.ite ?_ ?_|refine LeO.bind ?_ (fun _=>?_))
theorem bT.calls (k:Nat) (a0:Int) (r:Int) (w:World) (h:bT.f k a0=some r):
  Calls Try.prog 147 #[.int .u64 a0] w fun e w'=>e= .returned (.int .i64 r)∧Drawn0 w w':=by
 have H:((bW.f k a0).bind fun t101=> (some (wrap64 (64 - t101))))=some r:=h
 clear h
 obtain⟨t101,A2,H⟩:=qD_ H
 (try dsimp only at H)
 obtain rfl:=zKq H
 go_enter Try.func147,Try.ntmps147
 go_wp2_with (first|((with_reducible refine zJq (f:=154) rfl ?_);refine goesL_ (some 4) rfl rfl Try.func154 (by kernel_rfl) rfl #[.int .u64 a0] rfl qG ?_;(with_reducible refine(bW.calls k a0 t101 _ A2.out).mono ?_);rintro e w' ⟨rfl,⟨nd,rfl⟩⟩;refine⟨_,rfl,?_⟩))
 go_ret
 exact⟨by first|rfl|(simp;done)|(simp[*];done),by repeat(first|exact Drawn0.refl _|apply Drawn0.step)⟩
end Go.Proofs.Ytefhljhpcpajgaa.F
