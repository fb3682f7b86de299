-- by prune.py (own program),out of the print
import Derived.Test.YtefhljhpcpajgaaProg
import Derived.Below
import Derived.Deep.Draws
import Derived.Deep.AppendLies
import Derived.Maps.AppendAt
import Derived.OwnWalk
import Derived.Laws.BytesArg
import Derived.Laws.MakeOwn
import Derived.Laws.OwnMore
import Derived.Deep.OwnRows
import Derived.Tactics
import Derived.Lib.ConvBytes
import Derived.Laws.Slices
import Derived.WalkKit
import Derived.KernelRfl
import Derived.RowKit3
import Derived.Deep.LoopGhost
import Derived.Deep.QuietTactic
import Derived.BigQuiet
import Derived.WideLaws
import Derived.Deep.DeepCutAuto
import Derived.Deep.CutBlock
import Derived.Deep.RegionHeld3
import Derived.Laws.Rows
import Derived.Lib.AppendStr
import Derived.ArgAppend
import Derived.Laws.IdiomCopy
import Derived.OrdersHeld
import Derived.Laws.BitsLemmas
import Derived.RowKit
import Derived.Laws.StructEq
import Derived.Deep.RegionLawGrows
import Derived.Lib.SliceRun
import Derived.Test.YtefhljhpcpajgaaZOrderMakes6
set_option maxHeartbeats 8000000
set_option maxRecDepth 100000
namespace Go.Proofs.Ytefhljhpcpajgaa.F
open Go.RowKit Go.Proofs.YtefhljhpcpajgaaX Go.Proofs.YtefhljhpcpajgaaW.PrintWords Go.Proofs.YtefhljhpcpajgaaW.PrintLast Go.Proofs.YtefhljhpcpajgaaW.PrintMore
attribute [local go_sem] max2_int min2_int max_two min_two max_three min_three max_four min_four
attribute [local go_sem high] str_geq str_leq str_gtr
set_option linter.unusedVariables false
set_option linter.unusedSimpArgs false
mutual
def aE.j0:Nat→Bool→Int→Int→Int→Int→List ByteArray→Option (Int)
  |0,_,_,_,_,_,_=>none
  |k+1,x10,x102000,x102001,x102002,x102003,x102004=>if x10=true then(some 2)else(if x102001 < 0 then(aE.j1 k true x102000 x102001 x102002 x102003 x102004)else(if x102001 > 1000000000000 then(aE.j1 k true x102000 x102001 x102002 x102003 x102004)else(if x102002 < 0 then(aE.j1 k true x102000 x102001 x102002 x102003 x102004)else(if x102002 > x102001 then(aE.j1 k true x102000 x102001 x102002 x102003 x102004)else(if x102003 < 0 then(aE.j1 k true x102000 x102001 x102002 x102003 x102004)else(if x102003 > 1000000000000 then(aE.j1 k true x102000 x102001 x102002 x102003 x102004)else(aE.j1 k (decide ((wrap64 (x102002+x102003)) > 1000000000000)) x102000 x102001 x102002 x102003 x102004)))))))
def aE.j1:Nat→Bool→Int→Int→Int→Int→List ByteArray→Option (Int)
  |0,_,_,_,_,_,_=>none
  |k+1,x48,x102000,x102001,x102002,x102003,x102004=>if x48=true then(some 8)else(if(x102004.length:Int) < 1 then(some 9)else(if(x102004.length:Int) > 20 then(some 9)else((bG.f k x102004).bind fun t102=> (if t102=0 then(some 0)else(some 9)))))
end
def aE.f (k:Nat) (a0_0:Int) (a0_1:Int) (a0_2:Int) (a0_3:Int) (l0_4:List ByteArray):Option (Int):=if a0_0 < 1 then(aE.j0 k true a0_0 a0_1 a0_2 a0_3 l0_4)else(aE.j0 k (decide (a0_0 > 999999)) a0_0 a0_1 a0_2 a0_3 l0_4)
theorem aE.mono_l: ∀ k,(∀ y0 y1 y2 y3 y4 y5,LeO (aE.j0 k y0 y1 y2 y3 y4 y5) (aE.j0 (k+1) y0 y1 y2 y3 y4 y5))∧(∀ y0 y1 y2 y3 y4 y5,LeO (aE.j1 k y0 y1 y2 y3 y4 y5) (aE.j1 (k+1) y0 y1 y2 y3 y4 y5))
  |0=> ⟨fun _ _ _ _ _ _ r h=>by simp[aE.j0] at h,fun _ _ _ _ _ _ r h=>by simp[aE.j1] at h⟩
  |k+1=>by
    obtain⟨ih0,ih1⟩:=aE.mono_l k
    refine⟨?_,?_⟩
    · intro y0 y1 y2 y3 y4 y5
      unfold aE.j0
      repeat' (with_reducible first|exact ih0 _ _ _ _ _ _|exact ih1 _ _ _ _ _ _|exact bG.mono _ _|exact LeO.refl _|exact LeO.none _|refine LeO.ite ?_ ?_|refine LeO.bind ?_ (fun _=>?_))
    intro y0 y1 y2 y3 y4 y5
    unfold aE.j1
    repeat' (with_reducible first|exact ih0 _ _ _ _ _ _|exact ih1 _ _ _ _ _ _|exact bG.mono _ _|exact LeO.refl _|exact LeO.none _|refine LeO.ite ?_ ?_|refine LeO.bind ?_ (fun _=>?_))
theorem aE.mono: ∀ a0 a1 a2 a3 a4 k,LeO (aE.f k a0 a1 a2 a3 a4) (aE.f (k+1) a0 a1 a2 a3 a4):=by
  intro a0 a1 a2 a3 a4 k
  obtain⟨ih0,ih1⟩:=aE.mono_l k
  unfold aE.f
  repeat' (with_reducible first|exact ih0 _ _ _ _ _ _|exact ih1 _ _ _ _ _ _|exact bG.mono _ _|exact LeO.refl _|exact LeO.none _|refine LeO.ite ?_ ?_|refine LeO.bind ?_ (fun _=>?_))
theorem aE.calls (k:Nat) (a0_0:Int) (a0_1:Int) (a0_2:Int) (a0_3:Int) (A0_4:Option Addr) (c0_4:Nat) (l0_4:List ByteArray) (r:Int) (w:World) (hr0_4:Kd.C Kd.string w A0_4 l0_4.length l0_4) (hc0_4:l0_4.length≤c0_4) (h:aE.f k a0_0 a0_1 a0_2 a0_3 l0_4=some r):
  Calls Try.prog 70 #[.agg #[.int .i64 a0_0,.int .i64 a0_1,.int .i64 a0_2,.int .i64 a0_3,.slice A0_4 l0_4.length c0_4]] w fun e w'=>e= .returned (.int .i64 r)∧Below w.heap.size w w':=by
 have hu71:=Try.underlying71
 have HR0_4:=zA hr0_4
 have HC0_4:=zA hc0_4
 clear hr0_4 hc0_4
 have HB:=zA (Below.refl w.heap.size w)
 have H:(if a0_0 < 1 then(aE.j0 k true a0_0 a0_1 a0_2 a0_3 l0_4)else(aE.j0 k (decide (a0_0 > 999999)) a0_0 a0_1 a0_2 a0_3 l0_4))=some r:=h
 clear h
 have HC2:=zA H
 clear H
 go_enter Try.func70,Try.ntmps70
 go_upto_region 1 with(first|((with_reducible refine gate_dst (N:=1) rfl ?_);(try(refine gate_guard (by rfl) ?_;dsimp only));refine box_event qr (N:=1) qr (cs:= #[.int .i64 a0_0,.int .i64 a0_1,.int .i64 a0_2,.int .i64 a0_3,.slice A0_4 l0_4.length c0_4]) (t:=71) qg ?_;intro gb101 hg w3 hbox hb;have BK101:=zA (hbox);have GW101:=zA ((qS:w.heap.size≤gb101));have GE101:=zA ((qS:w.heap.size≤gb101));replace HB:=zA (zV qB hb);clear hb hbox hg))
 (try simp only[Act.put,zH,zI,zJ])
 go_cut[10] (fun v10 wc=> ∃ (kq:Nat) (x10_1:Bool),v10= .bool x10_1∧Aside0 (aE.j0 kq x10_1 a0_0 a0_1 a0_2 a0_3 l0_4=some r)∧Aside0 (kq≤k)∧Aside0 (wc.heap[gb101]? =some (.cells #[.int .i64 a0_0,.int .i64 a0_1,.int .i64 a0_2,.int .i64 a0_3,(.slice A0_4 l0_4.length c0_4)] 71 (0,0)))∧Aside0 (Below w.heap.size w wc))
 case first=>
  have H:=HC2.out;clear HC2;by_cases c4:a0_0 < 1
  ·rw[if_pos c4] at H
   have c4b0:=zFq c4;clear c4;(first|rw[c4b0] |(simp only[i64_w,i32_w];rw[c4b0])|skip)
   have H':=zA H;clear H;obtain⟨_,_,_,_,_,_,_,_,_,_⟩:=qc5f BK101.out;go_wp2;go_meet
   case rel=>exact⟨_,(true),qF_,H',⟨by first|omega|exact Nat.le_refl _⟩,⟨by exact BK101.out⟩,⟨qB⟩⟩
  rw[if_neg c4] at H;have c4b0:=zGq c4;clear c4;(first|rw[c4b0] |(simp only[i64_w,i32_w];rw[c4b0])|skip)
  have H':=zA H;clear H;obtain⟨_,_,_,_,_,_,_,_,_,_⟩:=qc5f BK101.out;go_wp2;go_meet
  case rel=>exact⟨_,(decide (a0_0 > 999999)),qF_,H',⟨by first|omega|exact Nat.le_refl _⟩,⟨by exact BK101.out⟩,⟨qB⟩⟩
 case rest=>
  clear HC2;try clear p2
  try clear c4
  try clear c4b0
  obtain⟨kq,x10_1,rfl,HA,HJ1,BK101,HB⟩:=hcut;cases kq with
  |zero=>exact absurd HA.out (by simp[aE.j0])
  |succ kj1=>
   have H:=HA.out;clear HA;simp only[aE.j0] at H;by_cases c7:x10_1=true
   ·subst c7
    have H1:(some 2)=some r:=by first|(rw[if_pos rfl] at H;exact H)|rfl
    clear H;have H:=H1;clear H1;obtain rfl:=zKq H;go_wp2;go_ret;exact⟨qE,qB⟩
   replace c7:=Bool.eq_false_iff.mpr c7;subst c7;have H1:(if a0_1 < 0 then(aE.j1 kj1 true a0_0 a0_1 a0_2 a0_3 l0_4)else(if a0_1 > 1000000000000 then(aE.j1 kj1 true a0_0 a0_1 a0_2 a0_3 l0_4)else(if a0_2 < 0 then(aE.j1 kj1 true a0_0 a0_1 a0_2 a0_3 l0_4)else(if a0_2 > a0_1 then(aE.j1 kj1 true a0_0 a0_1 a0_2 a0_3 l0_4)else(if a0_3 < 0 then(aE.j1 kj1 true a0_0 a0_1 a0_2 a0_3 l0_4)else(if a0_3 > 1000000000000 then(aE.j1 kj1 true a0_0 a0_1 a0_2 a0_3 l0_4)else(aE.j1 kj1 (decide ((wrap64 (a0_2+a0_3)) > 1000000000000)) a0_0 a0_1 a0_2 a0_3 l0_4)))))))=some r:=by first|(rw[if_neg (show ¬ (false=true) by decide)] at H;exact H)|rfl
   clear H;have H:=H1;clear H1;have HC8:=zA H;clear H;go_upto_region 3 with(fail)
   go_cut[48] (fun v48 wc=> ∃ (kq:Nat) (x48_7:Bool),v48= .bool x48_7∧Aside0 (aE.j1 kq x48_7 a0_0 a0_1 a0_2 a0_3 l0_4=some r)∧Aside0 (kq≤kj1)∧Aside0 (wc.heap[gb101]? =some (.cells #[.int .i64 a0_0,.int .i64 a0_1,.int .i64 a0_2,.int .i64 a0_3,(.slice A0_4 l0_4.length c0_4)] 71 (0,0)))∧Aside0 (Below w.heap.size w wc))
   case first=>
    have H:=HC8.out;clear HC8;by_cases c9:a0_1 < 0
    ·rw[if_pos c9] at H
     have c9b0:=zFq c9;clear c9;(first|rw[c9b0] |(simp only[i64_w,i32_w];rw[c9b0])|skip)
     have H':=zA H;clear H;obtain⟨_,_,_,_,_,_,_,_,_,_⟩:=qc5f BK101.out;go_wp2;go_meet
     case rel=>exact⟨_,(true),qF_,H',⟨by have:=HJ1.out;first|omega|exact Nat.le_refl _⟩,⟨by exact BK101.out⟩,⟨qB⟩⟩
    rw[if_neg c9] at H;have c9b0:=zGq c9;clear c9;(first|rw[c9b0] |(simp only[i64_w,i32_w];rw[c9b0])|skip)
    by_cases c11:a0_1 > 1000000000000
    ·rw[if_pos c11] at H
     have c11b0:decide (1000000000000 < a0_1)=true:=zFq c11;clear c11;have H':=zA H;clear H;obtain⟨_,_,_,_,_,_,_,_,_,_⟩:=qc5f BK101.out;go_wp2;go_meet
     case rel=>exact⟨_,(true),qF_,H',⟨by have:=HJ1.out;first|omega|exact Nat.le_refl _⟩,⟨by exact BK101.out⟩,⟨qB⟩⟩
    rw[if_neg c11] at H;have c11b0:decide (1000000000000 < a0_1)=false:=zGq c11;clear c11;by_cases c13:a0_2 < 0
    ·rw[if_pos c13] at H
     have c13b0:=zFq c13;clear c13;have H':=zA H;clear H;obtain⟨_,_,_,_,_,_,_,_,_,_⟩:=qc5f BK101.out;go_wp2;go_meet
     case rel=>exact⟨_,(true),qF_,H',⟨by have:=HJ1.out;first|omega|exact Nat.le_refl _⟩,⟨by exact BK101.out⟩,⟨qB⟩⟩
    rw[if_neg c13] at H;have c13b0:=zGq c13;clear c13;by_cases c15:a0_2 > a0_1
    ·rw[if_pos c15] at H
     have c15b0:decide (a0_1 < a0_2)=true:=zFq c15;clear c15;have H':=zA H;clear H;obtain⟨_,_,_,_,_,_,_,_,_,_⟩:=qc5f BK101.out;go_wp2;go_meet
     case rel=>exact⟨_,(true),qF_,H',⟨by have:=HJ1.out;first|omega|exact Nat.le_refl _⟩,⟨by exact BK101.out⟩,⟨qB⟩⟩
    rw[if_neg c15] at H;have c15b0:decide (a0_1 < a0_2)=false:=zGq c15;clear c15;by_cases c17:a0_3 < 0
    ·rw[if_pos c17] at H
     have c17b0:=zFq c17;clear c17;have H':=zA H;clear H;obtain⟨_,_,_,_,_,_,_,_,_,_⟩:=qc5f BK101.out;go_wp2;go_meet
     case rel=>exact⟨_,(true),qF_,H',⟨by have:=HJ1.out;first|omega|exact Nat.le_refl _⟩,⟨by exact BK101.out⟩,⟨qB⟩⟩
    rw[if_neg c17] at H;have c17b0:=zGq c17;clear c17;by_cases c19:a0_3 > 1000000000000
    ·rw[if_pos c19] at H
     have c19b0:decide (1000000000000 < a0_3)=true:=zFq c19;clear c19;have H':=zA H;clear H;obtain⟨_,_,_,_,_,_,_,_,_,_⟩:=qc5f BK101.out;go_wp2;go_meet
     case rel=>exact⟨_,(true),qF_,H',⟨by have:=HJ1.out;first|omega|exact Nat.le_refl _⟩,⟨by exact BK101.out⟩,⟨qB⟩⟩
    rw[if_neg c19] at H;have c19b0:decide (1000000000000 < a0_3)=false:=zGq c19;clear c19;have H':=zA H;clear H;obtain⟨_,_,_,_,_,_,_,_,_,_⟩:=qc5f BK101.out;go_wp2;go_meet
    case rel=>exact⟨_,(decide ((wrap64 (a0_2+a0_3)) > 1000000000000)),qF_,H',⟨by have:=HJ1.out;first|omega|exact Nat.le_refl _⟩,⟨by exact BK101.out⟩,⟨qB⟩⟩
   case rest=>
    clear HC8;try clear c1
    try clear p2
    try clear c4
    try clear c4b0
    try clear p6
    try clear c7
    try clear c9
    try clear c9b0
    try clear c11
    try clear c11b0
    try clear c13
    try clear c13b0
    try clear c15
    try clear c15b0
    try clear c17
    try clear c17b0
    try clear c19
    try clear c19b0
    try clear p2
    obtain⟨kq,x48_7,rfl,HA,HJ7,BK101,HB⟩:=hcut;cases kq with
    |zero=>exact absurd HA.out (by simp[aE.j1])
    |succ kj7=>
     have H:=HA.out;clear HA;simp only[aE.j1] at H;by_cases c22:x48_7=true
     ·subst c22
      have H1:(some 8)=some r:=by first|(rw[if_pos rfl] at H;exact H)|rfl
      clear H;have H:=H1;clear H1;obtain rfl:=zKq H;go_wp2;go_ret;exact⟨qE,qB⟩
     replace c22:=Bool.eq_false_iff.mpr c22;subst c22;have H1:(if(l0_4.length:Int) < 1 then(some 9)else(if(l0_4.length:Int) > 20 then(some 9)else((bG.f kj7 l0_4).bind fun t102=> (if t102=0 then(some 0)else(some 9)))))=some r:=by first|(rw[if_neg (show ¬ (false=true) by decide)] at H;exact H)|rfl
     clear H;have H:=H1;clear H1;by_cases c23:(l0_4.length:Int) < 1
     ·rw[if_pos c23] at H
      have c23b0:=zFq c23;have c23b1:decide (l0_4.length < 1)=true:=zFq (by omega);clear c23;obtain rfl:=zKq H;obtain⟨_,_,_,_,_,_,_,_,_,_⟩:=qc5f BK101.out;go_wp2;go_ret;exact⟨qE,qB⟩
     rw[if_neg c23] at H;have c23b0:=zGq c23;have c23b1:decide (l0_4.length < 1)=false:=zGq (by omega);clear c23;by_cases c25:(l0_4.length:Int) > 20
     ·rw[if_pos c25] at H
      have c25b0:decide (20 < (l0_4.length:Int))=true:=zFq c25;have c25b1:decide (20 < l0_4.length)=true:=zFq (by omega);clear c25;obtain rfl:=zKq H;obtain⟨_,_,_,_,_,_,_,_,_,_⟩:=qc5f BK101.out;go_wp2;go_ret;exact⟨qE,qB⟩
     rw[if_neg c25] at H;have c25b0:decide (20 < (l0_4.length:Int))=false:=zGq c25;have c25b1:decide (20 < l0_4.length)=false:=zGq (by omega);clear c25;obtain⟨t102,A27,H⟩:=qD_ H;(try dsimp only at H);by_cases c28:t102=0
     ·rw[if_pos c28] at H
      have c28b0:(t102==0)=true:=beq_iff_eq.mpr c28;have c28b1:(t102 != 0)=false:=bne_eq_false_iff_eq.mpr c28;clear c28;obtain rfl:=zKq H;obtain⟨_,_,_,_,_,_,_,_,_,_⟩:=qc5f BK101.out;go_wp2_with (first|(go_at_call 120;(with_reducible refine(bG.calls kj7 _ _ l0_4 t102 _ ?side1 ?side2 A27.out).mono ?_);(case side1=>exact qC (Kd.C_below HR0_4.out HB.out));(case side2=>exact HC0_4.out);rintro e w30 ⟨rfl,hb⟩;replace BK101:=zA (qX BK101.out hb);replace HB:=zA (zV qB hb);(try clear hb)));go_ret;exact⟨qE,qB⟩
     rw[if_neg c28] at H;have c28b0:(t102==0)=false:=beq_eq_false_iff_ne.mpr c28;have c28b1:(t102 != 0)=true:=bne_iff_ne.mpr c28;obtain rfl:=zKq H;obtain⟨_,_,_,_,_,_,_,_,_,_⟩:=qc5f BK101.out;go_wp2_with (first|(go_at_call 120;(with_reducible refine(bG.calls kj7 _ _ l0_4 t102 _ ?side1 ?side2 A27.out).mono ?_);(case side1=>exact qC (Kd.C_below HR0_4.out HB.out));(case side2=>exact HC0_4.out);rintro e w32 ⟨rfl,hb⟩;replace BK101:=zA (qX BK101.out hb);replace HB:=zA (zV qB hb);(try clear hb)));go_ret;exact⟨qE,qB⟩
theorem far5_ {W:World} {g:Nat} {q:Addr} {x:Option Value} {v0 v1 v2 v3 v4:Value} (h:q.block≠g) (hc:W.cell? q=x):(((((W.setCell ⟨g,0,none⟩ v0).setCell ⟨g,1,none⟩ v1).setCell ⟨g,2,none⟩ v2).setCell ⟨g,3,none⟩ v3).setCell ⟨g,4,none⟩ v4).cell? q=x:=
  (cell_far (p:=⟨g,4,none⟩) h _).trans ((cell_far (p:=⟨g,3,none⟩) h _).trans ((cell_far (p:=⟨g,2,none⟩) h _).trans ((cell_far (p:=⟨g,1,none⟩) h _).trans ((cell_far (p:=⟨g,0,none⟩) h _).trans hc))))
mutual
def aA.j0:Nat→List (S71)→Int→Int→Bool→Option ((List (S71)) × Int)
  |0,_,_,_,_=>none
  |k+1,x0,x1,x2,x28=>if x28=true then(some (([] :List (S71)),2))else(aA.l0 k x0 x1 x2 ([] :List (S71)) ([] :List Int) 0 0)
def aA.l0:Nat→List (S71)→Int→Int→List (S71)→List Int→Int→Int→Option ((List (S71)) × Int)
  |0,_,_,_,_,_,_,_=>none
  |k+1,x0,x1,x2,x8,x9,x11,x12=>if x12 < (x0.length:Int)then(if 0≤x12 then((aE.f k ((rd_T71 x0 x12).f0) ((rd_T71 x0 x12).f1) 0 0 ((rd_T71 x0 x12).f4)).bind fun t105=> (if t105=0 then(if x8.length < 2513169434916 then(if x9.length < 17592186044416 then(aA.l0 k x0 x1 x2 (x8++ [(⟨(rd_T71 x0 x12).f0,(rd_T71 x0 x12).f1,0,0,(rd_T71 x0 x12).f4⟩:S71)]) (x9++ [(rd_T71 x0 x12).f1]) (wrap64 (x11+((rd_T71 x0 x12).f1))) (wrap64 (x12+1)))else(none))else(none))else(some (([] :List (S71)),t105))))else(none))else(if x11 > 1000000000000 then(aA.j2 k x1 x2 x8 x9 ([] :List Int) x11 true)else(if x1 < 0 then(aA.j2 k x1 x2 x8 x9 ([] :List Int) x11 true)else(if x1 > 1000000000000 then(aA.j2 k x1 x2 x8 x9 ([] :List Int) x11 true)else(if x2 < 0 then(aA.j2 k x1 x2 x8 x9 ([] :List Int) x11 true)else(aA.j2 k x1 x2 x8 x9 ([] :List Int) x11 (decide (x2 > 1000000000000)))))))
def aA.j2:Nat→Int→Int→List (S71)→List Int→List Int→Int→Bool→Option ((List (S71)) × Int)
  |0,_,_,_,_,_,_,_=>none
  |k+1,x1,x2,x8,x9,x10,x11,x86=>if x86=true then(some (([] :List (S71)),8))else(if x1 > x11 then(some (([] :List (S71)),34))else((aC.f k x1 x9).bind fun bt112=> (aA.l1 k x2 x8 x10 bt112.1 0)))
def aA.l1:Nat→Int→List (S71)→List Int→List Int→Int→Option ((List (S71)) × Int)
  |0,_,_,_,_,_=>none
  |k+1,x2,x8,x10,x15,x17=>if x17 < (x8.length:Int)then(if 0≤x17 then(if x17 < (x15.length:Int)then(if x10.length < 17592186044416 then(aA.l1 k x2 (x8.set (x17:Int).toNat (⟨(rd_T71 x8 x17).f0,(rd_T71 x8 x17).f1,wrap64 (((rd_T71 x8 x17).f1) - (rd x15 x17)),(rd_T71 x8 x17).f3,(rd_T71 x8 x17).f4⟩:S71)) (x10++ [wrap64 (((rd_T71 x8 x17).f1) - (rd x15 x17))]) x15 (wrap64 (x17+1)))else(none))else(none))else(none))else((aC.f k x2 x10).bind fun bt123=> (aA.l2 k x8 bt123.1 0))
def aA.l2:Nat→List (S71)→List Int→Int→Option ((List (S71)) × Int)
  |0,_,_,_=>none
  |k+1,x8,x18,x20=>if x20 < (x8.length:Int)then(if 0≤x20 then(if x20 < (x18.length:Int)then((some (x8.set (x20:Int).toNat (⟨(rd_T71 x8 x20).f0,(rd_T71 x8 x20).f1,(rd_T71 x8 x20).f2,rd x18 x20,(rd_T71 x8 x20).f4⟩:S71):List (S71))).bind fun y128=> ((aE.f k ((rd_T71 y128 x20).f0) ((rd_T71 y128 x20).f1) ((rd_T71 y128 x20).f2) ((rd_T71 y128 x20).f3) ((rd_T71 y128 x20).f4)).bind fun t130=> (if t130=0 then(aA.l2 k y128 x18 (wrap64 (x20+1)))else(some (([] :List (S71)),8)))))else(none))else(none))else(some (x8,0))
end
def aA.f (k:Nat) (l0:List (S71)) (a1:Int) (a2:Int):Option ((List (S71)) × Int):=if(l0.length:Int)=0 then(aA.j0 k l0 a1 a2 true)else(aA.j0 k l0 a1 a2 (decide ((l0.length:Int) > 8)))
theorem aA.mono_l: ∀ k,(∀ y0 y1 y2 y3,LeO (aA.j0 k y0 y1 y2 y3) (aA.j0 (k+1) y0 y1 y2 y3))∧(∀ y0 y1 y2 y3 y4 y5 y6,LeO (aA.l0 k y0 y1 y2 y3 y4 y5 y6) (aA.l0 (k+1) y0 y1 y2 y3 y4 y5 y6))∧(∀ y0 y1 y2 y3 y4 y5 y6,LeO (aA.j2 k y0 y1 y2 y3 y4 y5 y6) (aA.j2 (k+1) y0 y1 y2 y3 y4 y5 y6))∧(∀ y0 y1 y2 y3 y4,LeO (aA.l1 k y0 y1 y2 y3 y4) (aA.l1 (k+1) y0 y1 y2 y3 y4))∧(∀ y0 y1 y2,LeO (aA.l2 k y0 y1 y2) (aA.l2 (k+1) y0 y1 y2))
  |0=> ⟨fun _ _ _ _ r h=>by simp[aA.j0] at h,fun _ _ _ _ _ _ _ r h=>by simp[aA.l0] at h,fun _ _ _ _ _ _ _ r h=>by simp[aA.j2] at h,fun _ _ _ _ _ r h=>by simp[aA.l1] at h,fun _ _ _ r h=>by simp[aA.l2] at h⟩
  |k+1=>by
    obtain⟨ih0,ih1,ih2,ih3,ih4⟩:=aA.mono_l k
    refine⟨?_,?_,?_,?_,?_⟩
    · intro y0 y1 y2 y3
      unfold aA.j0
      repeat' (with_reducible first|exact ih0 _ _ _ _|exact ih1 _ _ _ _ _ _ _|exact ih2 _ _ _ _ _ _ _|exact ih3 _ _ _ _ _|exact ih4 _ _ _|exact aC.mono _ _ _|exact aE.mono _ _ _ _ _ _|exact LeO.refl _|exact LeO.none _|refine LeO.ite ?_ ?_|refine LeO.bind ?_ (fun _=>?_))
    · intro y0 y1 y2 y3 y4 y5 y6
      unfold aA.l0
      repeat' (with_reducible first|exact ih0 _ _ _ _|exact ih1 _ _ _ _ _ _ _|exact ih2 _ _ _ _ _ _ _|exact ih3 _ _ _ _ _|exact ih4 _ _ _|exact aC.mono _ _ _|exact aE.mono _ _ _ _ _ _|exact LeO.refl _|exact LeO.none _|refine LeO.ite ?_ ?_|refine LeO.bind ?_ (fun _=>?_))
    · intro y0 y1 y2 y3 y4 y5 y6
      unfold aA.j2
      repeat' (with_reducible first|exact ih0 _ _ _ _|exact ih1 _ _ _ _ _ _ _|exact ih2 _ _ _ _ _ _ _|exact ih3 _ _ _ _ _|exact ih4 _ _ _|exact aC.mono _ _ _|exact aE.mono _ _ _ _ _ _|exact LeO.refl _|exact LeO.none _|refine LeO.ite ?_ ?_|refine LeO.bind ?_ (fun _=>?_))
    · intro y0 y1 y2 y3 y4
      unfold aA.l1
      repeat' (with_reducible first|exact ih0 _ _ _ _|exact ih1 _ _ _ _ _ _ _|exact ih2 _ _ _ _ _ _ _|exact ih3 _ _ _ _ _|exact ih4 _ _ _|exact aC.mono _ _ _|exact aE.mono _ _ _ _ _ _|exact LeO.refl _|exact LeO.none _|refine LeO.ite ?_ ?_|refine LeO.bind ?_ (fun _=>?_))
    intro y0 y1 y2
    unfold aA.l2
    repeat' (with_reducible first|exact ih0 _ _ _ _|exact ih1 _ _ _ _ _ _ _|exact ih2 _ _ _ _ _ _ _|exact ih3 _ _ _ _ _|exact ih4 _ _ _|exact aC.mono _ _ _|exact aE.mono _ _ _ _ _ _|exact LeO.refl _|exact LeO.none _|refine LeO.ite ?_ ?_|refine LeO.bind ?_ (fun _=>?_))
theorem aA.mono: ∀ a0 a1 a2 k,LeO (aA.f k a0 a1 a2) (aA.f (k+1) a0 a1 a2):=by
  intro a0 a1 a2 k
  obtain⟨ih0,ih1,ih2,ih3,ih4⟩:=aA.mono_l k
  unfold aA.f
  repeat' (with_reducible first|exact ih0 _ _ _ _|exact ih1 _ _ _ _ _ _ _|exact ih2 _ _ _ _ _ _ _|exact ih3 _ _ _ _ _|exact ih4 _ _ _|exact aC.mono _ _ _|exact aE.mono _ _ _ _ _ _|exact LeO.refl _|exact LeO.none _|refine LeO.ite ?_ ?_|refine LeO.bind ?_ (fun _=>?_))
def aA.T9:Bool × List (List Nat × List Nat):=(true,[([],[]),([],[]),([0,1],[0,1]),([2],[2]),([3],[3]),([],[]),([],[]),([5,6],[5,6]),([7],[7]),([8],[8]),([],[]),([],[]),([10,11],[10,11]),([12],[12]),([13],[13]),([4,9,14],[4,9,14]),([],[]),([16,15,0,1,2,3,4,5,6,7,8,9,10,11,12,13,14,15,16],[15,16])])
def aA.B9:List Nat:=[0,0,3,7,15,0,0,96,224,480,0,0,3072,7168,15360,32767,0,131071]
theorem aA.tab9:rtab .any (opsOf Try.f63 9)=aA.T9:=by kernel_rfl
theorem aA.bits9:waitsOk aA.T9.2 aA.B9=true:=by kernel_rfl
def aA.T24:Bool × List (List Nat × List Nat):=(true,[([],[]),([],[]),([],[]),([],[]),([2,3],[2,3]),([4],[4]),([5],[5]),([],[]),([],[]),([7,8],[7,8]),([9],[9]),([6,10],[6,10]),([0,1,0,1,2,3,4,5,6,7,8,9,10,11],[0,1]),([12,0,1,2,3,4,5,6,7,8,9,10,11],[12]),([13,11,0,1,2,3,4,5,6,7,8,9,10,11],[11,13])])
def aA.B24:List Nat:=[0,0,0,0,12,28,60,0,0,384,896,2044,4095,8191,16383]
theorem aA.tab24:rtab .any (opsOf Try.f63 24)=aA.T24:=by kernel_rfl
theorem aA.bits24:waitsOk aA.T24.2 aA.B24=true:=by kernel_rfl
theorem aA.calls (k:Nat) (P0_:Nat→Prop) (A0:Option Addr) (c0:Nat) (l0:List (S71)) (a1:Int) (a2:Int) (r1:List (S71)) (r2:Int) (w:World) (hs0:Kd.V k71 71 w w.heap.size (fun k_=>P0_ k_) (.slice A0 l0.length c0) l0) (h:aA.f k l0 a1 a2=some (r1,r2)):
  Calls Try.prog 63 #[.slice A0 l0.length c0,.int .i64 a1,.int .i64 a2] w fun e w'=> ∃ v0_:Value,e= .returned (.tuple #[v0_,.int .i64 r2])∧Kd.N k71 71 w' w.heap.size (fun k_=> (P0_ k_∨w.heap.size≤k_)) v0_ r1∧Below w.heap.size w w':=by
 have hu71:=Try.underlying71
 have HO0:=zA (show Kd.V k71 71 w w.heap.size (fun k_=> (P0_ k_∨w.heap.size≤k_)) (.slice A0 l0.length c0) l0 from Kd.V_mono hs0 (fun k_ hk=> .inl hk))
 have HB:=zA (Below.refl w.heap.size w)
 have H:(if(l0.length:Int)=0 then(aA.j0 k l0 a1 a2 true)else(aA.j0 k l0 a1 a2 (decide ((l0.length:Int) > 8))))=some (r1,r2):=h
 clear h
 have HC4:=zA H
 clear H
 go_enter Try.func63,Try.ntmps63
 go_upto_region 1 with(fail)
 go_cut[28] (fun v28 wc=> ∃ (kq:Nat) (x28_3:Bool),v28= .bool x28_3∧Aside0 (aA.j0 kq l0 a1 a2 x28_3=some (r1,r2))∧Aside0 (kq≤k)∧Aside0 (Kd.V k71 71 wc w.heap.size (fun k_=> (P0_ k_∨w.heap.size≤k_)) (.slice A0 l0.length c0) l0)∧Aside0 (Below w.heap.size w wc))
 case first=>
  have H:=HC4.out;clear HC4;by_cases c5:(l0.length:Int)=0
  ·rw[if_pos c5] at H
   have c5b0:((l0.length:Int)==0)=true:=beq_iff_eq.mpr c5;have c5b1:((l0.length:Int) != 0)=false:=bne_eq_false_iff_eq.mpr c5;clear c5;(first|rw[c5b0] |(simp only[i64_w,i32_w];rw[c5b0])|skip)
   have H':=zA H;clear H;go_wp2;go_meet
   case rel=>exact⟨_,(true),qF_,H',⟨by first|omega|exact Nat.le_refl _⟩,⟨qV_ HO0.out⟩,⟨qB⟩⟩
  rw[if_neg c5] at H;have c5b0:((l0.length:Int)==0)=false:=beq_eq_false_iff_ne.mpr c5;have c5b1:((l0.length:Int) != 0)=true:=bne_iff_ne.mpr c5;have c5b2: ¬ (l0=[]):=fun h_=>c5 (by rw[h_];rfl)
  (first|rw[c5b0] |(simp only[i64_w,i32_w];rw[c5b0])|skip)
  have H':=zA H;clear H;go_wp2;go_meet
  case rel=>exact⟨_,(decide ((l0.length:Int) > 8)),qF_,H',⟨by first|omega|exact Nat.le_refl _⟩,⟨qV_ HO0.out⟩,⟨qB⟩⟩
 case rest=>
  clear HC4;try clear p2
  try clear c5
  try clear c5b0
  try clear c5b1
  try clear c5b2
  obtain⟨kq,x28_3,rfl,HA,HJ3,HO_0,HB⟩:=hcut;cases kq with
  |zero=>exact absurd HA.out (by simp[aA.j0])
  |succ kj3=>
   have H:=HA.out;clear HA;simp only[aA.j0] at H;by_cases c6:x28_3=true
   ·subst c6
    have H1:(some (([] :List (S71)),2))=some (r1,r2):=by first|(rw[if_pos rfl] at H;exact H)|rfl
    clear H;have H:=H1;clear H1;simp only[zNq,zOq] at H;obtain⟨rfl,rfl⟩:=H;go_wp2;go_ret2;exact⟨_,qE,by first|exact Kd.S_nil _ _ _ _ _|exact Kd.N_nil _ _ _ _ _|exact Kd.V_nil _ _ _ _ _|exact Kd.Q_nil _ _ _ _ _|exact Kd.R_nil _ _ _ _ _,qB⟩
   replace c6:=Bool.eq_false_iff.mpr c6;subst c6;have H1:(aA.l0 kj3 l0 a1 a2 ([] :List (S71)) ([] :List Int) 0 0)=some (r1,r2):=by first|(rw[if_neg (show ¬ (false=true) by decide)] at H;exact H)|rfl
   clear H;have H:=H1;clear H1;have H':=zA H;clear H;go_wp2;go_loopg[8,9,11,12] kj3 (fun kq v8 v9 v11 v12 w'=> ∃ (x8_2:List (S71)) (x9_2:List Int) (x11_2:Int) (x12_2:Int),v11= .int .i64 x11_2∧v12= .int .i64 x12_2∧Aside0 (aA.l0 kq l0 a1 a2 x8_2 x9_2 x11_2 x12_2=some (r1,r2))∧Aside0 (kq≤kj3)∧Aside0 (Kd.V k71 71 w' w.heap.size (fun k_=> (P0_ k_∨w.heap.size≤k_)∧some k_≠(v8:Value).ownBlock∧some k_≠(v9:Value).ownBlock) (.slice A0 l0.length c0) l0)∧Aside0 (Kd.N k71 71 w' w.heap.size (fun k_=> (P0_ k_∨w.heap.size≤k_)∧some k_≠(v9:Value).ownBlock) v8 x8_2)∧Aside0 (Kd.R (Kd.int .i64) 3 w' w.heap.size (fun k_=> (w.heap.size≤k_)) v9 x9_2)∧Aside0 (Below w.heap.size w w'))
   case atStart=>exact⟨(([] :List (S71))),(([] :List Int)),(0),(0),qF_,qF_,H',⟨Nat.le_refl _⟩,⟨by(with_reducible repeat(first|apply Kd.V_alloc|apply Kd.V_drewN|apply Kd.V_drew));exact Kd.V_mono HO_0.out (fun _ hk=> ⟨hk,⟨(by simp[Value.ownBlock]),(by simp[Value.ownBlock])⟩⟩)⟩,⟨by first|exact Kd.S_nil _ _ _ _ _|exact Kd.N_nil _ _ _ _ _|exact Kd.V_nil _ _ _ _ _|exact Kd.Q_nil _ _ _ _ _|exact Kd.R_nil _ _ _ _ _⟩,⟨qN⟩,⟨qB⟩⟩
   case round=>
    clear H';try clear p2
    try clear c5
    try clear c5b0
    try clear c5b1
    try clear c5b2
    try clear c6
    try clear p2
    obtain⟨x8_2,x9_2,x11_2,x12_2,rfl,rfl,HA,HK2,HO_0,HO_8,HO_9,HB⟩:=hrel;cases gk with
    |zero=>exact absurd HA.out (by simp[aA.l0])
    |succ k2=>
     have H:=HA.out;clear HA;simp only[aA.l0] at H;by_cases c7:x12_2 < (l0.length:Int)
     ·rw[if_pos c7] at H
      have c7b0:=zFq c7;clear c7;by_cases c8:0≤x12_2
      ·rw[if_pos c8] at H
       have c8b0:=zFq c8;clear c8;obtain⟨t105,A9,H⟩:=qD_ H;(try dsimp only at H);have HH_:=zA H;clear H;try go_wp2
       replace HO_0:=zA (Kd.V_drew HO_0.out);replace HO_8:=zA (Kd.N_drew HO_8.out);replace HO_9:=zA (Kd.R_drew HO_9.out);replace HB:=zA (zC HB.out);have p101:0≤(x12_2:Int):=qO_;have q101:x12_2 < (l0.length:Int):=qO_;obtain⟨ad101,A101_4,c101_4,e101,hx101_0,hx101_1,hx101_2,hx101_3,hx101_4,hl101_4,hi101_4⟩:=at_T71 (Kd.V_reads' HO_0.out).2.2 x12_2 p101 q101;cases e101
       obtain⟨ce101,hce101,hMe101,hcc101⟩:=Kd.V_get HO_0.out z71 x12_2 p101 (by first|exact q101|exact qO_|(have e_:=(Kd.V_reads' HO_0.out).1;omega));obtain⟨ua101_4,uc101_4,rfl,ul101_4,ge101_4⟩:=k71_openF hMe101;have hv101_4:=hcc101 4 _ rfl;rw[add_field _ _ 4 (by omega)] at hv101_4;replace hv101_4:=zKq (hv101_4.symm.trans hx101_4);injection hv101_4 with hva_ hvn_ hvc_
       rw[hva_] at ge101_4;rw[hvc_] at ul101_4;have HL101_4:=zA (show Kd.V Kd.string 9 _ w.heap.size _ _ ((rd_T71 l0 x12_2).f4)from Kd.V_mk ul101_4 ge101_4);clear hva_ hvn_ hvc_ ge101_4 ul101_4;clear hcc101 hce101;have HR101_4:=zA hi101_4;have HC101_4:=zA hl101_4;clear hi101_4 hl101_4;replace p101:=eq_true p101;replace q101:=eq_true q101;refine start_ (n:=18) (S:=fun w'=>w'.cell? (ad101.add ((x12_2).toNat * 5))=some (.int .i64 ((rd_T71 l0 x12_2).f0))∧w'.cell? ⟨(ad101.add ((x12_2).toNat * 5)).block,(ad101.add ((x12_2).toNat * 5)).off+1,none⟩=some (.int .i64 ((rd_T71 l0 x12_2).f1))∧w'.cell? ⟨(ad101.add ((x12_2).toNat * 5)).block,(ad101.add ((x12_2).toNat * 5)).off+2,none⟩=some (.int .i64 ((rd_T71 l0 x12_2).f2))∧w'.cell? ⟨(ad101.add ((x12_2).toNat * 5)).block,(ad101.add ((x12_2).toNat * 5)).off+3,none⟩=some (.int .i64 ((rd_T71 l0 x12_2).f3))∧w'.cell? ⟨(ad101.add ((x12_2).toNat * 5)).block,(ad101.add ((x12_2).toNat * 5)).off+4,none⟩=some (.slice A101_4 ((rd_T71 l0 x12_2).f4).length c101_4)) (ds:=[]) #[Z,Z,Z,Z,Z,Z,Z,Z,Z,Z,Z,Z,Z,Z,Z,Z,Z,Z] (by kernel_rfl) rfl rfl ⟨hx101_0,hx101_1,hx101_2,hx101_3,hx101_4⟩ (fun hHeld=>?_);refine with_tabW aA.tab9 aA.bits9 (fun HT_ HW_=>?_);generalize wr.drew=w13 at HO_0 HO_8 HO_9 HB HL101_4 HR101_4 hx101_0 hx101_1 hx101_2 hx101_3 hx101_4 hHeld⊢;refine pure_ (i:=0) (N:=some 35) #[I,Z,Z,Z,Z,Z,Z,Z,Z,Z,Z,Z,Z,Z,Z,Z,Z,Z] rfl rfl (any_of HT_.out (by kernel_rfl)) (fun _ _ _ h=>h) (Or.inl ⟨by rfl,qy⟩) qz ?_;refine pure_ (i:=1) (N:=some 36) #[I,I,Z,Z,Z,Z,Z,Z,Z,Z,Z,Z,Z,Z,Z,Z,Z,Z] rfl rfl (any_of HT_.out (by kernel_rfl)) (fun _ _ _ h=>h) (Or.inl ⟨by rfl,qy⟩) qz ?_;refine pure_ (i:=2) (N:=some 37) #[I,I,I,Z,Z,Z,Z,Z,Z,Z,Z,Z,Z,Z,Z,Z,Z,Z] rfl rfl (any_of HT_.out (by kernel_rfl)) (fun _ _ _ h=>h) (Or.inl ⟨by rfl,qy⟩) qz ?_;refine pure_ (i:=3) (N:=some 38) #[I,I,I,I,Z,Z,Z,Z,Z,Z,Z,Z,Z,Z,Z,Z,Z,Z] rfl rfl (any_of HT_.out (by kernel_rfl)) (fun _ _ _ h=>h) (Or.inl ⟨by rfl,qy⟩) qz ?_;refine pure_ (i:=5) (N:=some 40) #[I,I,I,I,Z,I,Z,Z,Z,Z,Z,Z,Z,Z,Z,Z,Z,Z] rfl rfl (any_of HT_.out (by kernel_rfl)) (fun _ _ _ h=>h) (Or.inl ⟨by rfl,qy⟩) qz ?_;refine pure_ (i:=6) (N:=some 41) #[I,I,I,I,Z,I,I,Z,Z,Z,Z,Z,Z,Z,Z,Z,Z,Z] rfl rfl (any_of HT_.out (by kernel_rfl)) (fun _ _ _ h=>h) (Or.inl ⟨by rfl,qy⟩) qz ?_
       refine pure_ (i:=7) (N:=some 42) #[I,I,I,I,Z,I,I,I,Z,Z,Z,Z,Z,Z,Z,Z,Z,Z] rfl rfl (any_of HT_.out (by kernel_rfl)) (fun _ _ _ h=>h) (Or.inl ⟨by rfl,qy⟩) qz ?_;refine pure_ (i:=8) (N:=some 43) #[I,I,I,I,Z,I,I,I,I,Z,Z,Z,Z,Z,Z,Z,Z,Z] rfl rfl (any_of HT_.out (by kernel_rfl)) (fun _ _ _ h=>h) (Or.inl ⟨by rfl,qy⟩) qz ?_;refine pure_ (i:=10) (N:=some 45) #[I,I,I,I,Z,I,I,I,I,Z,I,Z,Z,Z,Z,Z,Z,Z] rfl rfl (any_of HT_.out (by kernel_rfl)) (fun _ _ _ h=>h) (Or.inl ⟨by rfl,qy⟩) qz ?_;refine pure_ (i:=11) (N:=some 46) #[I,I,I,I,Z,I,I,I,I,Z,I,I,Z,Z,Z,Z,Z,Z] rfl rfl (any_of HT_.out (by kernel_rfl)) (fun _ _ _ h=>h) (Or.inl ⟨by rfl,qy⟩) qz ?_;refine pure_ (i:=12) (N:=some 47) #[I,I,I,I,Z,I,I,I,I,Z,I,I,I,Z,Z,Z,Z,Z] rfl rfl (any_of HT_.out (by kernel_rfl)) (fun _ _ _ h=>h) (Or.inl ⟨by rfl,qy⟩) qz ?_;refine pure_ (i:=13) (N:=some 48) #[I,I,I,I,Z,I,I,I,I,Z,I,I,I,I,Z,Z,Z,Z] rfl rfl (any_of HT_.out (by kernel_rfl)) (fun _ _ _ h=>h) (Or.inl ⟨by rfl,qy⟩) qz ?_;refine take_ (i:=4) (N:=some 39) (v:=?_) (a':=?_) #[I,I,I,I,I,I,I,I,I,Z,I,I,I,I,Z,Z,Z,Z] rfl rfl (take_ofW HT_.out HW_.out (by kernel_rfl)) (fun _ _ _ h=>h) (Or.inl ⟨by rfl,?_⟩) hHeld ?_ ?_;rotate_left
       ·rintro w' ⟨s0,s1,s2,s3,s4⟩
        go_simp;with_reducible rfl
       rotate_left
       ·simp only[Act.put,zH,zI,zJ,i64_w,i32_w]
        rfl
       refine take_ (i:=9) (N:=some 44) (v:=?_) (a':=?_) #[I,I,I,I,I,I,I,I,I,I,I,I,I,I,Z,Z,Z,Z] rfl rfl (take_ofW HT_.out HW_.out (by kernel_rfl)) (fun _ _ _ h=>h) (Or.inl ⟨by rfl,?_⟩) hHeld ?_ ?_;rotate_left
       ·rintro w' ⟨s0,s1,s2,s3,s4⟩
        go_simp;with_reducible rfl
       rotate_left
       ·simp only[Act.put,zH,zI,zJ,i64_w,i32_w]
        rfl
       refine take_ (i:=14) (N:=some 49) (v:=?_) (a':=?_) #[I,I,I,I,I,I,I,I,I,I,I,I,I,I,I,Z,Z,Z] rfl rfl (take_ofW HT_.out HW_.out (by kernel_rfl)) (fun _ _ _ h=>h) (Or.inl ⟨by rfl,?_⟩) hHeld ?_ ?_;rotate_left
       ·rintro w' ⟨s0,s1,s2,s3,s4⟩
        go_simp;with_reducible rfl
       rotate_left
       ·simp only[Act.put,zH,zI,zJ,i64_w,i32_w]
        rfl
       refine pure_ (i:=15) (N:=some 50) #[I,I,I,I,I,I,I,I,I,I,I,I,I,I,I,I,Z,Z] rfl rfl (any_of HT_.out (by kernel_rfl)) (fun _ _ _ h=>h) (Or.inl ⟨by rfl,qy⟩) qz ?_;refine one_ (i:=16) (N:=some 13) #[I,I,I,I,I,I,I,I,I,I,I,I,I,I,I,I,I,Z] rfl rfl (one_of HT_.out (by kernel_rfl)) (by decide) (fun K hK=>?_);refine box_step ?hg (N:=13) ?hd (cs:= #[.int .i64 0,.int .i64 0,.int .i64 0,.int .i64 0,.slice none 0 0]) (t:=71) ?hr ?_;(case hd=>rfl);(case hg=>rfl);(case hr=>first|(go_simp;done)|(go_simp;rfl));intro gb104 hg w14 hbox hb;have hne_:(ad101.add ((x12_2).toNat * 5)).block≠gb104:=by rw[hg];exact zLq (zCq _ _ hHeld.1)
       have HS0_:=(hb.cell (zCq _ _ (hHeld.1))).trans (hHeld.1);have HS1_:=(hb.cell (zCq _ _ (hHeld.2.1))).trans (hHeld.2.1);have HS2_:=(hb.cell (zCq _ _ (hHeld.2.2.1))).trans (hHeld.2.2.1);have HS3_:=(hb.cell (zCq _ _ (hHeld.2.2.2.1))).trans (hHeld.2.2.2.1);have HS4_:=(hb.cell (zCq _ _ (hHeld.2.2.2.2))).trans (hHeld.2.2.2.2);replace HO_0:=zA (Kd.V_below (Kd.V_elderB (qV_ HO_0.out) gb104 (Nat.le_of_eq hg.symm)) hb);replace HO_8:=zA (Kd.N_below (Kd.N_elderB (qN_ HO_8.out) gb104 (Nat.le_of_eq hg.symm)) hb);replace HO_9:=zA (Kd.R_below (qR_ HO_9.out) hb);replace HL101_4:=zA (Kd.V_below (Kd.V_elderB (qV_ HL101_4.out) gb104 (Nat.le_of_eq hg.symm)) hb);replace HR101_4:=zA (Kd.C_below (by repeat(first|(with_reducible exact HR101_4.out)|(with_reducible refine Kd.C_alloc ?_ _)|(with_reducible refine Kd.C_drewN ?_ _)|(with_reducible refine Kd.C_drew ?_)|exact HR101_4.out)) hb);have BK104:=zA (hbox);have GW104:=zA ((qS:w.heap.size≤gb104));have GE104:=zA ((qS:w.heap.size≤gb104));replace HB:=zA (zV qB hb);clear hb hbox hg;refine hK.out _ _ ⟨HS0_,HS1_,HS2_,HS3_,HS4_⟩ (fun hHeld=>?_);clear hK K;refine norm_ (a':=?_) ?_ ?_;rotate_left
       ·show Act.put _ (some 13) _=_
        simp only[Act.put,zH,zI,zJ,i64_w,i32_w];rfl
       refine one_ (i:=17) (N:=none) #[I,I,I,I,I,I,I,I,I,I,I,I,I,I,I,I,I,I] rfl rfl (one_of HT_.out (by kernel_rfl)) (by decide) (fun K hK=>?_);have hs15:w14.cell? ⟨gb104,0,none⟩=some (.int .i64 0):=(zF BK104.out 0).trans rfl;have hfs15:=zG BK104.out 0;have hs16:w14.cell? ⟨gb104,1,none⟩=some (.int .i64 0):=(zF BK104.out 1).trans rfl;have hfs16:=zG BK104.out 1;have hs17:w14.cell? ⟨gb104,2,none⟩=some (.int .i64 0):=(zF BK104.out 2).trans rfl;have hfs17:=zG BK104.out 2;have hs18:w14.cell? ⟨gb104,3,none⟩=some (.int .i64 0):=(zF BK104.out 3).trans rfl;have hfs18:=zG BK104.out 3;have hs19:w14.cell? ⟨gb104,4,none⟩=some (.slice none 0 0):=(zF BK104.out 4).trans rfl;have hfs19:=zG BK104.out 4;refine skip_ (w1:=?_) (by rfl) rfl ?_ ?_;rotate_left
       ·go_simp
        rfl
       refine hK.out _ _ ⟨far5_ hne_ hHeld.1,far5_ hne_ hHeld.2.1,far5_ hne_ hHeld.2.2.1,far5_ hne_ hHeld.2.2.2.1,far5_ hne_ hHeld.2.2.2.2⟩ (fun hHeld=>?_);clear hne_;clear hK K;refine done_ (done_of HT_.out (by kernel_rfl)) ?_;obtain⟨_,_,_,_,_,_,_,_,_,_⟩:=qc5f BK104.out;have H:=HH_.out;clear HH_;by_cases c10:t105=0
       ·rw[if_pos c10] at H
        have c10b0:(t105==0)=true:=beq_iff_eq.mpr c10;have c10b1:(t105 != 0)=false:=bne_eq_false_iff_eq.mpr c10;clear c10;by_cases c11:x8_2.length < 2513169434916
        ·rw[if_pos c11] at H
         have LMc11:=zA c11;clear c11;obtain⟨y106,hy106⟩: ∃ y_:List (S71),y_=(x8_2++ [(⟨(rd_T71 l0 x12_2).f0,(rd_T71 l0 x12_2).f1,0,0,(rd_T71 l0 x12_2).f4⟩:S71)]):=⟨_,rfl⟩
         replace H:(if x9_2.length < 17592186044416 then(aA.l0 k2 l0 a1 a2 y106 (x9_2++ [(rd_T71 l0 x12_2).f1]) (wrap64 (x11_2+((rd_T71 l0 x12_2).f1))) (wrap64 (x12_2+1)))else(none))=some (r1,r2):=by first|(rw[hy106];with_reducible exact H)|(have H2_:=(Option.bind_some _ _).symm.trans H;rw[hy106];with_reducible exact H2_)|(have H2_:=(Option.bind_some _ _).symm.trans H;with_reducible exact H2_)|with_reducible exact H|(rw[hy106];exact H)|exact H
         have Ny106:=zA hy106;clear hy106;by_cases c12:x9_2.length < 17592186044416
         ·rw[if_pos c12] at H
          have LMc12:=zA c12;clear c12;obtain⟨y109,hy109⟩: ∃ y_:List Int,y_=(x9_2++ [(rd_T71 l0 x12_2).f1]):=⟨_,rfl⟩
          replace H:(aA.l0 k2 l0 a1 a2 y106 y109 (wrap64 (x11_2+((rd_T71 l0 x12_2).f1))) (wrap64 (x12_2+1)))=some (r1,r2):=by first|(rw[hy109];with_reducible exact H)|(have H2_:=(Option.bind_some _ _).symm.trans H;rw[hy109];with_reducible exact H2_)|(have H2_:=(Option.bind_some _ _).symm.trans H;with_reducible exact H2_)|with_reducible exact H|(rw[hy109];exact H)|exact H
          have Ny109:=zA hy109;clear hy109;have H':=zA H;clear H;try go_wp2_with (first|((with_reducible refine zJq (f:=70) rfl ?_);refine goesL_ (some 52) rfl rfl Try.func70 (by kernel_rfl) rfl #[.agg #[.int .i64 ((rd_T71 l0 x12_2).f0),.int .i64 ((rd_T71 l0 x12_2).f1),.int .i64 0,.int .i64 0,.slice A101_4 ((rd_T71 l0 x12_2).f4).length c101_4]] rfl qG ?_;(with_reducible refine(aE.calls k2 ((rd_T71 l0 x12_2).f0) ((rd_T71 l0 x12_2).f1) 0 0 _ _ ((rd_T71 l0 x12_2).f4) t105 _ ?side1 ?side2 A9.out).mono ?_);(case side1=>repeat(first|exact((Kd.V_reads' (by(with_reducible repeat(first|apply Kd.V_alloc|apply Kd.V_drewN|apply Kd.V_drew));exact(Kd.V_mono (Kd.V_far (p:=⟨gb104,4,none⟩) (Kd.V_far (p:=⟨gb104,3,none⟩) (Kd.V_far (p:=⟨gb104,2,none⟩) (Kd.V_far (p:=⟨gb104,1,none⟩) (Kd.V_far (p:=⟨gb104,0,none⟩) (Kd.V_mono HL101_4.out (fun k_ hk=> (⟨hk,hk.2⟩:_∧k_≠gb104))) (fun _ hk=>hk.2) (.int .i64 ((rd_T71 l0 x12_2).f0))) (fun _ hk=>hk.2) (.int .i64 ((rd_T71 l0 x12_2).f1))) (fun _ hk=>hk.2) (.int .i64 0)) (fun _ hk=>hk.2) (.int .i64 0)) (fun _ hk=>hk.2) (.slice A101_4 ((rd_T71 l0 x12_2).f4).length c101_4)) (fun _ h_=>h_.1)))).2.2)|(with_reducible refine Kd.C_alloc ?_ _)|(with_reducible refine Kd.C_drewN ?_ _)|(with_reducible refine Kd.C_drew ?_)));(case side2=>exact HC101_4.out);rintro e w21 ⟨rfl,hb⟩;refine⟨_,rfl,?_⟩;replace HO_0:=zA (Kd.V_below (by(with_reducible repeat(first|apply Kd.V_alloc|apply Kd.V_drewN|apply Kd.V_drew));exact(Kd.V_mono (Kd.V_far (p:=⟨gb104,4,none⟩) (Kd.V_far (p:=⟨gb104,3,none⟩) (Kd.V_far (p:=⟨gb104,2,none⟩) (Kd.V_far (p:=⟨gb104,1,none⟩) (Kd.V_far (p:=⟨gb104,0,none⟩) (Kd.V_mono HO_0.out (fun k_ hk=> (⟨hk,hk.2⟩:_∧k_≠gb104))) (fun _ hk=>hk.2) (.int .i64 ((rd_T71 l0 x12_2).f0))) (fun _ hk=>hk.2) (.int .i64 ((rd_T71 l0 x12_2).f1))) (fun _ hk=>hk.2) (.int .i64 0)) (fun _ hk=>hk.2) (.int .i64 0)) (fun _ hk=>hk.2) (.slice A101_4 ((rd_T71 l0 x12_2).f4).length c101_4)) (fun _ h_=>h_.1))) hb);replace HO_8:=zA (Kd.N_below (by(with_reducible repeat(first|apply Kd.N_alloc|apply Kd.N_drewN|apply Kd.N_drew));exact(Kd.N_mono (Kd.N_far (p:=⟨gb104,4,none⟩) (Kd.N_far (p:=⟨gb104,3,none⟩) (Kd.N_far (p:=⟨gb104,2,none⟩) (Kd.N_far (p:=⟨gb104,1,none⟩) (Kd.N_far (p:=⟨gb104,0,none⟩) (Kd.N_mono HO_8.out (fun k_ hk=> (⟨hk,hk.2⟩:_∧k_≠gb104))) (fun _ hk=>hk.2) (.int .i64 ((rd_T71 l0 x12_2).f0))) (fun _ hk=>hk.2) (.int .i64 ((rd_T71 l0 x12_2).f1))) (fun _ hk=>hk.2) (.int .i64 0)) (fun _ hk=>hk.2) (.int .i64 0)) (fun _ hk=>hk.2) (.slice A101_4 ((rd_T71 l0 x12_2).f4).length c101_4)) (fun _ h_=>h_.1))) hb);replace HO_9:=zA (Kd.R_below (by(with_reducible repeat(first|apply Kd.R_alloc|apply Kd.R_drewN|apply Kd.R_drew));exact(Kd.R_mono (Kd.R_far (p:=⟨gb104,4,none⟩) (Kd.R_far (p:=⟨gb104,3,none⟩) (Kd.R_far (p:=⟨gb104,2,none⟩) (Kd.R_far (p:=⟨gb104,1,none⟩) (Kd.R_far (p:=⟨gb104,0,none⟩) (Kd.R_types HO_9.out BK104.out (by decide)) (fun _ hk=>hk.2) (.int .i64 ((rd_T71 l0 x12_2).f0))) (fun _ hk=>hk.2) (.int .i64 ((rd_T71 l0 x12_2).f1))) (fun _ hk=>hk.2) (.int .i64 0)) (fun _ hk=>hk.2) (.int .i64 0)) (fun _ hk=>hk.2) (.slice A101_4 ((rd_T71 l0 x12_2).f4).length c101_4)) (fun _ h_=>h_.1))) hb);replace HR101_4:=zA (Kd.C_below ((Kd.V_reads' (by(with_reducible repeat(first|apply Kd.V_alloc|apply Kd.V_drewN|apply Kd.V_drew));exact(Kd.V_mono (Kd.V_far (p:=⟨gb104,4,none⟩) (Kd.V_far (p:=⟨gb104,3,none⟩) (Kd.V_far (p:=⟨gb104,2,none⟩) (Kd.V_far (p:=⟨gb104,1,none⟩) (Kd.V_far (p:=⟨gb104,0,none⟩) (Kd.V_mono HL101_4.out (fun k_ hk=> (⟨hk,hk.2⟩:_∧k_≠gb104))) (fun _ hk=>hk.2) (.int .i64 ((rd_T71 l0 x12_2).f0))) (fun _ hk=>hk.2) (.int .i64 ((rd_T71 l0 x12_2).f1))) (fun _ hk=>hk.2) (.int .i64 0)) (fun _ hk=>hk.2) (.int .i64 0)) (fun _ hk=>hk.2) (.slice A101_4 ((rd_T71 l0 x12_2).f4).length c101_4)) (fun _ h_=>h_.1)))).2.2) hb);replace HL101_4:=zA (Kd.V_below (by(with_reducible repeat(first|apply Kd.V_alloc|apply Kd.V_drewN|apply Kd.V_drew));exact(Kd.V_mono (Kd.V_far (p:=⟨gb104,4,none⟩) (Kd.V_far (p:=⟨gb104,3,none⟩) (Kd.V_far (p:=⟨gb104,2,none⟩) (Kd.V_far (p:=⟨gb104,1,none⟩) (Kd.V_far (p:=⟨gb104,0,none⟩) (Kd.V_mono HL101_4.out (fun k_ hk=> (⟨hk,hk.2⟩:_∧k_≠gb104))) (fun _ hk=>hk.2) (.int .i64 ((rd_T71 l0 x12_2).f0))) (fun _ hk=>hk.2) (.int .i64 ((rd_T71 l0 x12_2).f1))) (fun _ hk=>hk.2) (.int .i64 0)) (fun _ hk=>hk.2) (.int .i64 0)) (fun _ hk=>hk.2) (.slice A101_4 ((rd_T71 l0 x12_2).f4).length c101_4)) (fun _ h_=>h_.1))) hb);replace BK104:=zA (zX (g:=gb104) (o:= .cells #[.int .i64 ((rd_T71 l0 x12_2).f0),.int .i64 ((rd_T71 l0 x12_2).f1),.int .i64 0,.int .i64 0,.slice A101_4 ((rd_T71 l0 x12_2).f4).length c101_4] 71 (0,0)) (qV BK104.out) hb);replace HB:=zA (zV qB hb);(try clear hb);obtain⟨_,_,_,_,_,_,_,_,_,_⟩:=qc5f BK104.out)|((with_reducible refine gate_builtin (b:= .append) (xs:= #[.tmp 56,.tmp 58]) rfl ?_);(try(refine gate_guard (by rfl) ?_;dsimp only));at_builtin;refine Kd.N_append k71 (w0:=w) w.heap.size rfl (.tmp 56) (.tmp 58) 59 71 (.agg #[(.int .i64 0),(.int .i64 0),(.int .i64 0),(.int .i64 0),(.slice none 0 0)]) 56 rfl Try.underlying59 info71 rfl (by decide) (by omega) u8 x8_2 (⟨(rd_T71 l0 x12_2).f0,(rd_T71 l0 x12_2).f1,0,0,(rd_T71 l0 x12_2).f4⟩:S71) [.int .i64 ((rd_T71 l0 x12_2).f0),.int .i64 ((rd_T71 l0 x12_2).f1),.int .i64 0,.int .i64 0,.slice A101_4 ((rd_T71 l0 x12_2).f4).length c101_4] (fun k_=> (P0_ k_∨w.heap.size≤k_)∧some k_≠(u9:Value).ownBlock∧k_≠gb104) (fun k_=> ((fun k_=> (P0_ k_∨w.heap.size≤k_)∧some k_≠(u9:Value).ownBlock∧k_≠gb104)) k_∧some k_≠(u8:Value).ownBlock) rfl rfl ?aP (fun _ hk=>hk) ?aF ?aO ?aB ?aS ?aL ?_;(case aP=>exact(k71_mkF _ _ (⟨(rd_T71 l0 x12_2).f0,(rd_T71 l0 x12_2).f1,0,0,(rd_T71 l0 x12_2).f4⟩:S71) (Kd.V_reads' (Kd.V_mono (ok':=(fun k_=> ((fun k_=> (P0_ k_∨w.heap.size≤k_)∧some k_≠(u9:Value).ownBlock∧k_≠gb104)) k_∧some k_≠(u8:Value).ownBlock)) (HL101_4.out) (fun k_ hk=> ⟨⟨hk.1.1,⟨hk.1.2.2,hk.2⟩⟩,hk.1.2.1⟩))).2.1 (Kd.V_F (Kd.V_mono (ok':=(fun k_=> ((fun k_=> (P0_ k_∨w.heap.size≤k_)∧some k_≠(u9:Value).ownBlock∧k_≠gb104)) k_∧some k_≠(u8:Value).ownBlock)) (HL101_4.out) (fun k_ hk=> ⟨⟨hk.1.1,⟨hk.1.2.2,hk.2⟩⟩,hk.1.2.1⟩)))));(case aB=>exact qB);(case aF=>exact(fun k_ hk=> ⟨(.inr (Nat.le_trans (zW qB) hk)),Kd.fresh' (Kd.R_lt (qR_ HO_9.out)) k_ hk,Kd.freshB (g:=gb104) (o:= .cells #[.int .i64 ((rd_T71 l0 x12_2).f0),.int .i64 ((rd_T71 l0 x12_2).f1),.int .i64 0,.int .i64 0,.slice A101_4 ((rd_T71 l0 x12_2).f4).length c101_4] 71 (0,0)) (qW BK104.out) k_ hk⟩));(case aO=>exact(by(with_reducible repeat(first|apply Kd.N_alloc|apply Kd.N_drewN|apply Kd.N_drew));exact Kd.N_mono HO_8.out (fun _ hk=> ⟨hk.1.1,⟨hk.1.2,hk.2⟩⟩)));(case aS=>exact(zW qB));(case aL=>have:=LMc11.out;omega);intro v107 w23 ho hb hg hat;rw[←Ny106.out] at ho;replace HO_0:=zA (Kd.V_afterv (ok:=(fun k_=> (P0_ k_∨w.heap.size≤k_)∧some k_≠(u9:Value).ownBlock∧k_≠gb104)) (by(with_reducible repeat(first|apply Kd.V_alloc|apply Kd.V_drewN|apply Kd.V_drew));exact Kd.V_mono HO_0.out (fun _ hk=> ⟨⟨hk.1.1,⟨hk.1.2.2,hk.2⟩⟩,hk.1.2.1⟩)) hg hat);replace HO_9:=zA (Kd.R_over' (qR_ HO_9.out) (Kd.N_typed (qN_ HO_8.out)) (by decide) hg);replace HL101_4:=zA (Kd.V_afterv (ok:=(fun k_=> (P0_ k_∨w.heap.size≤k_)∧some k_≠(u9:Value).ownBlock∧k_≠gb104)) (by(with_reducible repeat(first|apply Kd.V_alloc|apply Kd.V_drewN|apply Kd.V_drew));exact Kd.V_mono HL101_4.out (fun _ hk=> ⟨⟨hk.1.1,⟨hk.1.2.2,hk.2⟩⟩,hk.1.2.1⟩)) hg hat);replace BK104:=zA (blk_grown (g:=gb104) (o:= .cells #[.int .i64 ((rd_T71 l0 x12_2).f0),.int .i64 ((rd_T71 l0 x12_2).f1),.int .i64 0,.int .i64 0,.slice A101_4 ((rd_T71 l0 x12_2).f4).length c101_4] 71 (0,0)) (qW BK104.out) hg (Kd.N_away HO_8.out (fun _ hk=>hk.2)));replace HB:=zA (hb);have HO108:=zA (ho);clear HO_8 ho hb hg hat;obtain⟨_,_,_,_,_,_,_,_,_,_⟩:=qc5f BK104.out)|((with_reducible refine gate_builtin (b:= .append) (xs:= #[.tmp 60,.tmp 63]) rfl ?_);(try(refine gate_guard (by rfl) ?_;dsimp only));at_builtin;refine Kd.R_append (Kd.int .i64) (w0:=w) w.heap.size rfl (.tmp 60) (.tmp 63) 22 3 (.int .i64 0) 8 rfl Try.underlying22 info3 rfl (by decide) (by omega) u9 x9_2 ((rd_T71 l0 x12_2).f1) [.int .i64 ((rd_T71 l0 x12_2).f1)] (fun k_=> (w.heap.size≤k_)) (fun _=>False) rfl rfl ?aP (fun _ hk=>hk.elim) ?aF ?aO ?aB ?aS ?aL ?_;(case aP=>exact rfl);(case aB=>exact qB);(case aF=>exact(fun k_ hk=> (Nat.le_trans (zW qB) hk)));(case aO=>exact(qR_ HO_9.out));(case aS=>exact(zW qB));(case aL=>have:=LMc12.out;omega);intro v110 w25 ho hb hg hat;rw[←Ny109.out] at ho;replace HO_0:=zA (Kd.V_afterv (ok:=(fun k_=> (P0_ k_∨w.heap.size≤k_)∧some k_≠(v107:Value).ownBlock∧k_≠gb104)) (by(with_reducible repeat(first|apply Kd.V_alloc|apply Kd.V_drewN|apply Kd.V_drew));exact Kd.V_mono HO_0.out (fun _ hk=> ⟨⟨hk.1.1,⟨hk.2,hk.1.2.2⟩⟩,hk.1.2.1⟩)) hg hat);replace HL101_4:=zA (Kd.V_afterv (ok:=(fun k_=> (P0_ k_∨w.heap.size≤k_)∧some k_≠(v107:Value).ownBlock∧k_≠gb104)) (by(with_reducible repeat(first|apply Kd.V_alloc|apply Kd.V_drewN|apply Kd.V_drew));exact Kd.V_mono HL101_4.out (fun _ hk=> ⟨⟨hk.1.1,⟨hk.2,hk.1.2.2⟩⟩,hk.1.2.1⟩)) hg hat);replace BK104:=zA (blk_grown (g:=gb104) (o:= .cells #[.int .i64 ((rd_T71 l0 x12_2).f0),.int .i64 ((rd_T71 l0 x12_2).f1),.int .i64 0,.int .i64 0,.slice A101_4 ((rd_T71 l0 x12_2).f4).length c101_4] 71 (0,0)) (qW BK104.out) hg (Kd.R_ne HO_9.out BK104.out (by decide)));replace HO108:=zA (Kd.N_afterv (ok:=(fun k_=> (P0_ k_∨w.heap.size≤k_)∧k_≠gb104)) (by(with_reducible repeat(first|apply Kd.N_alloc|apply Kd.N_drewN|apply Kd.N_drew));exact Kd.N_mono HO108.out (fun _ hk=> ⟨⟨hk.1,hk.2.2⟩,hk.2.1⟩)) hg hat);replace HB:=zA (hb);have HO111:=zA (ho);clear HO_9 ho hb hg hat;obtain⟨_,_,_,_,_,_,_,_,_,_⟩:=qc5f BK104.out))
          go_roundg k2
          case measure=>have:=HJ3.out;have:=HK2.out;omega
          case rel=>exact⟨(y106),(y109),(wrap64 (x11_2+((rd_T71 l0 x12_2).f1))),(wrap64 (x12_2+1)),qF_,qF_,H',⟨by have:=HJ3.out;have:=HK2.out;omega⟩,⟨by(with_reducible repeat(first|apply Kd.V_alloc|apply Kd.V_drewN|apply Kd.V_drew));exact Kd.V_mono HO_0.out (fun _ hk=> ⟨hk.1.1,⟨hk.1.2.1,hk.2⟩⟩)⟩,⟨by(with_reducible repeat(first|apply Kd.N_alloc|apply Kd.N_drewN|apply Kd.N_drew));exact Kd.N_mono HO108.out (fun _ hk=> ⟨hk.1.1,hk.2⟩)⟩,⟨qR_ HO111.out⟩,⟨qB⟩⟩
         rw[if_neg c12] at H;exact absurd H (by simp)
        rw[if_neg c11] at H;exact absurd H (by simp)
       rw[if_neg c10] at H;have c10b0:(t105==0)=false:=beq_eq_false_iff_ne.mpr c10;have c10b1:(t105 != 0)=true:=bne_iff_ne.mpr c10;simp only[zNq,zOq] at H;obtain⟨rfl,rfl⟩:=H;try go_wp2_with (first|((with_reducible refine zJq (f:=70) rfl ?_);refine goesL_ (some 52) rfl rfl Try.func70 (by kernel_rfl) rfl #[.agg #[.int .i64 ((rd_T71 l0 x12_2).f0),.int .i64 ((rd_T71 l0 x12_2).f1),.int .i64 0,.int .i64 0,.slice A101_4 ((rd_T71 l0 x12_2).f4).length c101_4]] rfl qG ?_;(with_reducible refine(aE.calls k2 ((rd_T71 l0 x12_2).f0) ((rd_T71 l0 x12_2).f1) 0 0 _ _ ((rd_T71 l0 x12_2).f4) t105 _ ?side1 ?side2 A9.out).mono ?_);(case side1=>repeat(first|exact((Kd.V_reads' (by(with_reducible repeat(first|apply Kd.V_alloc|apply Kd.V_drewN|apply Kd.V_drew));exact(Kd.V_mono (Kd.V_far (p:=⟨gb104,4,none⟩) (Kd.V_far (p:=⟨gb104,3,none⟩) (Kd.V_far (p:=⟨gb104,2,none⟩) (Kd.V_far (p:=⟨gb104,1,none⟩) (Kd.V_far (p:=⟨gb104,0,none⟩) (Kd.V_mono HL101_4.out (fun k_ hk=> (⟨hk,hk.2⟩:_∧k_≠gb104))) (fun _ hk=>hk.2) (.int .i64 ((rd_T71 l0 x12_2).f0))) (fun _ hk=>hk.2) (.int .i64 ((rd_T71 l0 x12_2).f1))) (fun _ hk=>hk.2) (.int .i64 0)) (fun _ hk=>hk.2) (.int .i64 0)) (fun _ hk=>hk.2) (.slice A101_4 ((rd_T71 l0 x12_2).f4).length c101_4)) (fun _ h_=>h_.1)))).2.2)|(with_reducible refine Kd.C_alloc ?_ _)|(with_reducible refine Kd.C_drewN ?_ _)|(with_reducible refine Kd.C_drew ?_)));(case side2=>exact HC101_4.out);rintro e w35 ⟨rfl,hb⟩;refine⟨_,rfl,?_⟩;replace HO_0:=zA (Kd.V_below (by(with_reducible repeat(first|apply Kd.V_alloc|apply Kd.V_drewN|apply Kd.V_drew));exact(Kd.V_mono (Kd.V_far (p:=⟨gb104,4,none⟩) (Kd.V_far (p:=⟨gb104,3,none⟩) (Kd.V_far (p:=⟨gb104,2,none⟩) (Kd.V_far (p:=⟨gb104,1,none⟩) (Kd.V_far (p:=⟨gb104,0,none⟩) (Kd.V_mono HO_0.out (fun k_ hk=> (⟨hk,hk.2⟩:_∧k_≠gb104))) (fun _ hk=>hk.2) (.int .i64 ((rd_T71 l0 x12_2).f0))) (fun _ hk=>hk.2) (.int .i64 ((rd_T71 l0 x12_2).f1))) (fun _ hk=>hk.2) (.int .i64 0)) (fun _ hk=>hk.2) (.int .i64 0)) (fun _ hk=>hk.2) (.slice A101_4 ((rd_T71 l0 x12_2).f4).length c101_4)) (fun _ h_=>h_.1))) hb);replace HO_8:=zA (Kd.N_below (by(with_reducible repeat(first|apply Kd.N_alloc|apply Kd.N_drewN|apply Kd.N_drew));exact(Kd.N_mono (Kd.N_far (p:=⟨gb104,4,none⟩) (Kd.N_far (p:=⟨gb104,3,none⟩) (Kd.N_far (p:=⟨gb104,2,none⟩) (Kd.N_far (p:=⟨gb104,1,none⟩) (Kd.N_far (p:=⟨gb104,0,none⟩) (Kd.N_mono HO_8.out (fun k_ hk=> (⟨hk,hk.2⟩:_∧k_≠gb104))) (fun _ hk=>hk.2) (.int .i64 ((rd_T71 l0 x12_2).f0))) (fun _ hk=>hk.2) (.int .i64 ((rd_T71 l0 x12_2).f1))) (fun _ hk=>hk.2) (.int .i64 0)) (fun _ hk=>hk.2) (.int .i64 0)) (fun _ hk=>hk.2) (.slice A101_4 ((rd_T71 l0 x12_2).f4).length c101_4)) (fun _ h_=>h_.1))) hb);replace HO_9:=zA (Kd.R_below (by(with_reducible repeat(first|apply Kd.R_alloc|apply Kd.R_drewN|apply Kd.R_drew));exact(Kd.R_mono (Kd.R_far (p:=⟨gb104,4,none⟩) (Kd.R_far (p:=⟨gb104,3,none⟩) (Kd.R_far (p:=⟨gb104,2,none⟩) (Kd.R_far (p:=⟨gb104,1,none⟩) (Kd.R_far (p:=⟨gb104,0,none⟩) (Kd.R_types HO_9.out BK104.out (by decide)) (fun _ hk=>hk.2) (.int .i64 ((rd_T71 l0 x12_2).f0))) (fun _ hk=>hk.2) (.int .i64 ((rd_T71 l0 x12_2).f1))) (fun _ hk=>hk.2) (.int .i64 0)) (fun _ hk=>hk.2) (.int .i64 0)) (fun _ hk=>hk.2) (.slice A101_4 ((rd_T71 l0 x12_2).f4).length c101_4)) (fun _ h_=>h_.1))) hb);replace HR101_4:=zA (Kd.C_below ((Kd.V_reads' (by(with_reducible repeat(first|apply Kd.V_alloc|apply Kd.V_drewN|apply Kd.V_drew));exact(Kd.V_mono (Kd.V_far (p:=⟨gb104,4,none⟩) (Kd.V_far (p:=⟨gb104,3,none⟩) (Kd.V_far (p:=⟨gb104,2,none⟩) (Kd.V_far (p:=⟨gb104,1,none⟩) (Kd.V_far (p:=⟨gb104,0,none⟩) (Kd.V_mono HL101_4.out (fun k_ hk=> (⟨hk,hk.2⟩:_∧k_≠gb104))) (fun _ hk=>hk.2) (.int .i64 ((rd_T71 l0 x12_2).f0))) (fun _ hk=>hk.2) (.int .i64 ((rd_T71 l0 x12_2).f1))) (fun _ hk=>hk.2) (.int .i64 0)) (fun _ hk=>hk.2) (.int .i64 0)) (fun _ hk=>hk.2) (.slice A101_4 ((rd_T71 l0 x12_2).f4).length c101_4)) (fun _ h_=>h_.1)))).2.2) hb);replace HL101_4:=zA (Kd.V_below (by(with_reducible repeat(first|apply Kd.V_alloc|apply Kd.V_drewN|apply Kd.V_drew));exact(Kd.V_mono (Kd.V_far (p:=⟨gb104,4,none⟩) (Kd.V_far (p:=⟨gb104,3,none⟩) (Kd.V_far (p:=⟨gb104,2,none⟩) (Kd.V_far (p:=⟨gb104,1,none⟩) (Kd.V_far (p:=⟨gb104,0,none⟩) (Kd.V_mono HL101_4.out (fun k_ hk=> (⟨hk,hk.2⟩:_∧k_≠gb104))) (fun _ hk=>hk.2) (.int .i64 ((rd_T71 l0 x12_2).f0))) (fun _ hk=>hk.2) (.int .i64 ((rd_T71 l0 x12_2).f1))) (fun _ hk=>hk.2) (.int .i64 0)) (fun _ hk=>hk.2) (.int .i64 0)) (fun _ hk=>hk.2) (.slice A101_4 ((rd_T71 l0 x12_2).f4).length c101_4)) (fun _ h_=>h_.1))) hb);replace BK104:=zA (zX (g:=gb104) (o:= .cells #[.int .i64 ((rd_T71 l0 x12_2).f0),.int .i64 ((rd_T71 l0 x12_2).f1),.int .i64 0,.int .i64 0,.slice A101_4 ((rd_T71 l0 x12_2).f4).length c101_4] 71 (0,0)) (qV BK104.out) hb);replace HB:=zA (zV qB hb);(try clear hb)))
       go_ret2;exact⟨_,qE,by first|exact Kd.S_nil _ _ _ _ _|exact Kd.N_nil _ _ _ _ _|exact Kd.V_nil _ _ _ _ _|exact Kd.Q_nil _ _ _ _ _|exact Kd.R_nil _ _ _ _ _,qB⟩
      rw[if_neg c8] at H;exact absurd H (by simp)
     rw[if_neg c7] at H;have c7b0:=zGq c7;clear c7;have HC36:=zA H;clear H;go_upto_region 16 with(fail)
     go_cut[86] (fun v86 wc=> ∃ (kq:Nat) (x86_35:Bool),v86= .bool x86_35∧Aside0 (aA.j2 kq a1 a2 x8_2 x9_2 ([] :List Int) x11_2 x86_35=some (r1,r2))∧Aside0 (kq≤k2)∧Aside0 (Kd.N k71 71 wc w.heap.size (fun k_=> (P0_ k_∨w.heap.size≤k_)∧some k_≠(u9:Value).ownBlock∧some k_≠((.slice none 0 0):Value).ownBlock) u8 x8_2)∧Aside0 (Kd.R (Kd.int .i64) 3 wc w.heap.size (fun k_=> (w.heap.size≤k_)∧some k_≠((.slice none 0 0):Value).ownBlock) u9 x9_2)∧Aside0 (Kd.R (Kd.int .i64) 3 wc w.heap.size (fun k_=> (w.heap.size≤k_)∧some k_≠(u9:Value).ownBlock) (.slice none 0 0) ([] :List Int))∧Aside0 (Below w.heap.size w wc))
     case first=>
      have H:=HC36.out;clear HC36;by_cases c37:x11_2 > 1000000000000
      ·rw[if_pos c37] at H
       have c37b0:decide (1000000000000 < x11_2)=true:=zFq c37;clear c37;(first|rw[c37b0] |(simp only[i64_w,i32_w];rw[c37b0])|skip)
       have H':=zA H;clear H;go_wp2;go_meet
       case rel=>exact⟨_,(true),qF_,H',⟨by have:=HJ3.out;have:=HK2.out;first|omega|exact Nat.le_refl _⟩,⟨by(with_reducible repeat(first|apply Kd.N_alloc|apply Kd.N_drewN|apply Kd.N_drew));exact Kd.N_mono HO_8.out (fun _ hk=> ⟨hk.1,⟨hk.2,(by simp[Value.ownBlock])⟩⟩)⟩,⟨by(with_reducible repeat(first|apply Kd.R_alloc|apply Kd.R_drewN|apply Kd.R_drew));exact Kd.R_mono HO_9.out (fun _ hk=> ⟨hk,(by simp[Value.ownBlock])⟩)⟩,⟨qN⟩,⟨qB⟩⟩
      rw[if_neg c37] at H;have c37b0:decide (1000000000000 < x11_2)=false:=zGq c37;clear c37;(first|rw[c37b0] |(simp only[i64_w,i32_w];rw[c37b0])|skip)
      by_cases c38:a1 < 0
      ·rw[if_pos c38] at H
       have c38b0:=zFq c38;clear c38;have H':=zA H;clear H;go_wp2;go_meet
       case rel=>exact⟨_,(true),qF_,H',⟨by have:=HJ3.out;have:=HK2.out;first|omega|exact Nat.le_refl _⟩,⟨by(with_reducible repeat(first|apply Kd.N_alloc|apply Kd.N_drewN|apply Kd.N_drew));exact Kd.N_mono HO_8.out (fun _ hk=> ⟨hk.1,⟨hk.2,(by simp[Value.ownBlock])⟩⟩)⟩,⟨by(with_reducible repeat(first|apply Kd.R_alloc|apply Kd.R_drewN|apply Kd.R_drew));exact Kd.R_mono HO_9.out (fun _ hk=> ⟨hk,(by simp[Value.ownBlock])⟩)⟩,⟨qN⟩,⟨qB⟩⟩
      rw[if_neg c38] at H;have c38b0:=zGq c38;clear c38;by_cases c39:a1 > 1000000000000
      ·rw[if_pos c39] at H
       have c39b0:decide (1000000000000 < a1)=true:=zFq c39;clear c39;have H':=zA H;clear H;go_wp2;go_meet
       case rel=>exact⟨_,(true),qF_,H',⟨by have:=HJ3.out;have:=HK2.out;first|omega|exact Nat.le_refl _⟩,⟨by(with_reducible repeat(first|apply Kd.N_alloc|apply Kd.N_drewN|apply Kd.N_drew));exact Kd.N_mono HO_8.out (fun _ hk=> ⟨hk.1,⟨hk.2,(by simp[Value.ownBlock])⟩⟩)⟩,⟨by(with_reducible repeat(first|apply Kd.R_alloc|apply Kd.R_drewN|apply Kd.R_drew));exact Kd.R_mono HO_9.out (fun _ hk=> ⟨hk,(by simp[Value.ownBlock])⟩)⟩,⟨qN⟩,⟨qB⟩⟩
      rw[if_neg c39] at H;have c39b0:decide (1000000000000 < a1)=false:=zGq c39;clear c39;by_cases c40:a2 < 0
      ·rw[if_pos c40] at H
       have c40b0:=zFq c40;clear c40;have H':=zA H;clear H;go_wp2;go_meet
       case rel=>exact⟨_,(true),qF_,H',⟨by have:=HJ3.out;have:=HK2.out;first|omega|exact Nat.le_refl _⟩,⟨by(with_reducible repeat(first|apply Kd.N_alloc|apply Kd.N_drewN|apply Kd.N_drew));exact Kd.N_mono HO_8.out (fun _ hk=> ⟨hk.1,⟨hk.2,(by simp[Value.ownBlock])⟩⟩)⟩,⟨by(with_reducible repeat(first|apply Kd.R_alloc|apply Kd.R_drewN|apply Kd.R_drew));exact Kd.R_mono HO_9.out (fun _ hk=> ⟨hk,(by simp[Value.ownBlock])⟩)⟩,⟨qN⟩,⟨qB⟩⟩
      rw[if_neg c40] at H;have c40b0:=zGq c40;clear c40;have H':=zA H;clear H;go_wp2;go_meet
      case rel=>exact⟨_,(decide (a2 > 1000000000000)),qF_,H',⟨by have:=HJ3.out;have:=HK2.out;first|omega|exact Nat.le_refl _⟩,⟨by(with_reducible repeat(first|apply Kd.N_alloc|apply Kd.N_drewN|apply Kd.N_drew));exact Kd.N_mono HO_8.out (fun _ hk=> ⟨hk.1,⟨hk.2,(by simp[Value.ownBlock])⟩⟩)⟩,⟨by(with_reducible repeat(first|apply Kd.R_alloc|apply Kd.R_drewN|apply Kd.R_drew));exact Kd.R_mono HO_9.out (fun _ hk=> ⟨hk,(by simp[Value.ownBlock])⟩)⟩,⟨qN⟩,⟨qB⟩⟩
     case rest=>
      clear HC36;try clear c1
      try clear p1
      try clear q1
      try clear hx1
      try clear p2
      try clear c3
      try clear c4
      try clear c5
      try clear c5b0
      try clear c5b1
      try clear c5b2
      try clear c6
      try clear p6
      try clear c7
      try clear c7b0
      try clear c8
      try clear c8b0
      try clear c10
      try clear c10b0
      try clear c10b1
      try clear p10
      try clear q10
      try clear hx10
      try clear c11
      try clear c12
      try clear c37
      try clear c37b0
      try clear c38
      try clear c38b0
      try clear c39
      try clear c39b0
      try clear c40
      try clear c40b0
      try clear hcz34_0
      try clear hcz34_1
      try clear hcz34_2
      try clear hcz34_3
      try clear hcz34_4
      try clear hfz34_0
      try clear hfz34_1
      try clear hfz34_2
      try clear hfz34_3
      try clear hfz34_4
      try clear hx101_0
      try clear hx101_1
      try clear hx101_2
      try clear hx101_3
      try clear hx101_4
      try clear p101
      try clear p2
      try clear q101
      obtain⟨kq,x86_35,rfl,HA,HJ35,HO_8,HO_9,HO_10,HB⟩:=hcut;cases kq with
      |zero=>exact absurd HA.out (by simp[aA.j2])
      |succ kj35=>
       have H:=HA.out;clear HA;simp only[aA.j2] at H;by_cases c41:x86_35=true
       ·subst c41
        have H1:(some (([] :List (S71)),8))=some (r1,r2):=by first|(rw[if_pos rfl] at H;exact H)|rfl
        clear H;have H:=H1;clear H1;simp only[zNq,zOq] at H;obtain⟨rfl,rfl⟩:=H;go_wp2;go_ret2;exact⟨_,qE,by first|exact Kd.S_nil _ _ _ _ _|exact Kd.N_nil _ _ _ _ _|exact Kd.V_nil _ _ _ _ _|exact Kd.Q_nil _ _ _ _ _|exact Kd.R_nil _ _ _ _ _,qB⟩
       replace c41:=Bool.eq_false_iff.mpr c41;subst c41;have H1:(if a1 > x11_2 then(some (([] :List (S71)),34))else((aC.f kj35 a1 x9_2).bind fun bt112=> (aA.l1 kj35 a2 x8_2 ([] :List Int) bt112.1 0)))=some (r1,r2):=by first|(rw[if_neg (show ¬ (false=true) by decide)] at H;exact H)|rfl
       clear H;have H:=H1;clear H1;by_cases c42:a1 > x11_2
       ·rw[if_pos c42] at H
        have c42b0:decide (x11_2 < a1)=true:=zFq c42;clear c42;simp only[zNq,zOq] at H;obtain⟨rfl,rfl⟩:=H;go_wp2;go_ret2;exact⟨_,qE,by first|exact Kd.S_nil _ _ _ _ _|exact Kd.N_nil _ _ _ _ _|exact Kd.V_nil _ _ _ _ _|exact Kd.Q_nil _ _ _ _ _|exact Kd.R_nil _ _ _ _ _,qB⟩
       rw[if_neg c42] at H;have c42b0:decide (x11_2 < a1)=false:=zGq c42;clear c42;obtain⟨⟨t112,t113⟩,A43,H⟩:=qD_ H;(try dsimp only at H);have H':=zA H;clear H;obtain⟨Ao44,co44,eo44⟩:=Kd.R_slice HO_9.out;subst eo44;go_wp2_with (first|((with_reducible refine zJq (f:=52) rfl ?_);refine goesL_ (some 93) rfl rfl Try.func52 (by kernel_rfl) rfl #[.int .i64 a1,.slice Ao44 x9_2.length co44] rfl qG ?_;(with_reducible refine(aC.calls kj35 a1 _ _ x9_2 t112 t113 _ ?side1 ?side2 A43.out).mono ?_);(case side1=>repeat(first|exact(Kd.R_reads' HO_9.out).2.2|(with_reducible refine Kd.C_alloc ?_ _)|(with_reducible refine Kd.C_drewN ?_ _)|(with_reducible refine Kd.C_drew ?_)));(case side2=>exact(Kd.R_reads' HO_9.out).2.1);rintro e w45 ⟨v114,rfl,ho0,hb⟩;refine⟨_,rfl,?_⟩;replace HO_8:=zA (Kd.N_elder' (qN_ HO_8.out) (Kd.R_base ho0) hb);have HO115:=zA (Kd.R_lower (Kd.R_new' (Kd.R_new' (Kd.R_newM (M:=fun k_=> (w.heap.size≤k_)) ho0 (zW qB) (fun k_ h_=>h_)) (Kd.R_lt (qR_ HO_9.out))) (Kd.R_lt (qR_ HO_10.out))) (zW qB));replace HO_9:=zA (Kd.R_elder' (qR_ HO_9.out) (Kd.R_base ho0) hb);replace HO_10:=zA (Kd.R_elder' (qR_ HO_10.out) (Kd.R_base ho0) hb);replace HB:=zA (zV qB hb);(try clear hb);(try clear ho0)));go_loopg[10,17] kj35 (fun kq v10 v17 w'=> ∃ (x8_4:List (S71)) (x10_4:List Int) (x17_4:Int),v17= .int .i64 x17_4∧Aside0 (aA.l1 kq a2 x8_4 x10_4 t112 x17_4=some (r1,r2))∧Aside0 (kq≤kj35)∧Aside0 (Kd.N k71 71 w' w.heap.size (fun k_=> (P0_ k_∨w.heap.size≤k_)∧some k_≠(v10:Value).ownBlock∧some k_≠(v114:Value).ownBlock) u8 x8_4)∧Aside0 (Kd.R (Kd.int .i64) 3 w' w.heap.size (fun k_=> (w.heap.size≤k_)∧some k_≠(v114:Value).ownBlock) v10 x10_4)∧Aside0 (Kd.R (Kd.int .i64) 3 w' w.heap.size (fun k_=> (w.heap.size≤k_)∧some k_≠(v10:Value).ownBlock) v114 t112)∧Aside0 (Below w.heap.size w w'))
       case atStart=>exact⟨(x8_2),(([] :List Int)),(0),qF_,H',⟨Nat.le_refl _⟩,⟨by(with_reducible repeat(first|apply Kd.N_alloc|apply Kd.N_drewN|apply Kd.N_drew));exact Kd.N_mono HO_8.out (fun _ hk=> ⟨hk.1.1,⟨hk.1.2.2,hk.2⟩⟩)⟩,⟨by(with_reducible repeat(first|apply Kd.R_alloc|apply Kd.R_drewN|apply Kd.R_drew));exact Kd.R_mono HO_10.out (fun _ hk=> ⟨hk.1.1,hk.2⟩)⟩,⟨by(with_reducible repeat(first|apply Kd.R_alloc|apply Kd.R_drewN|apply Kd.R_drew));exact Kd.R_mono HO115.out (fun _ hk=> ⟨hk.1.1.1,hk.2⟩)⟩,⟨qB⟩⟩
       case round=>
        clear H';try clear c1
        try clear p1
        try clear q1
        try clear hx1
        try clear p2
        try clear c3
        try clear c4
        try clear c5
        try clear c5b0
        try clear c5b1
        try clear c5b2
        try clear c6
        try clear p6
        try clear c7
        try clear c7b0
        try clear c8
        try clear c8b0
        try clear c10
        try clear c10b0
        try clear c10b1
        try clear p10
        try clear q10
        try clear hx10
        try clear c11
        try clear c12
        try clear c37
        try clear c37b0
        try clear c38
        try clear c38b0
        try clear c39
        try clear c39b0
        try clear c40
        try clear c40b0
        try clear c41
        try clear c42
        try clear c42b0
        try clear hcz34_0
        try clear hcz34_1
        try clear hcz34_2
        try clear hcz34_3
        try clear hcz34_4
        try clear hfz34_0
        try clear hfz34_1
        try clear hfz34_2
        try clear hfz34_3
        try clear hfz34_4
        try clear hx101_0
        try clear hx101_1
        try clear hx101_2
        try clear hx101_3
        try clear hx101_4
        try clear p1
        try clear p10
        try clear p101
        try clear p2
        try clear p6
        try clear q1
        try clear q10
        try clear q101
        obtain⟨x8_4,x10_4,x17_4,rfl,HA,HK4,HO_8,HO_10,HO_15,HB⟩:=hrel;cases gk with
        |zero=>exact absurd HA.out (by simp[aA.l1])
        |succ k4=>
         have H:=HA.out;clear HA;simp only[aA.l1] at H;by_cases c46:x17_4 < (x8_4.length:Int)
         ·rw[if_pos c46] at H
          have c46b0:=zFq c46;clear c46;by_cases c47:0≤x17_4
          ·rw[if_pos c47] at H
           have c47b0:=zFq c47;clear c47;by_cases c48:x17_4 < (t112.length:Int)
           ·rw[if_pos c48] at H
            have c48b0:=zFq c48;clear c48;obtain⟨y118,hy118⟩: ∃ y_:List (S71),y_=(x8_4.set (x17_4:Int).toNat (⟨(rd_T71 x8_4 x17_4).f0,(rd_T71 x8_4 x17_4).f1,wrap64 (((rd_T71 x8_4 x17_4).f1) - (rd t112 x17_4)),(rd_T71 x8_4 x17_4).f3,(rd_T71 x8_4 x17_4).f4⟩:S71)):=⟨_,rfl⟩
            replace H:(if x10_4.length < 17592186044416 then(aA.l1 k4 a2 y118 (x10_4++ [wrap64 (((rd_T71 x8_4 x17_4).f1) - (rd t112 x17_4))]) t112 (wrap64 (x17_4+1)))else(none))=some (r1,r2):=by first|(rw[hy118];with_reducible exact H)|(have H2_:=(Option.bind_some _ _).symm.trans H;rw[hy118];with_reducible exact H2_)|(have H2_:=(Option.bind_some _ _).symm.trans H;with_reducible exact H2_)|with_reducible exact H|(rw[hy118];exact H)|exact H
            have Ny118:=zA hy118;clear hy118;by_cases c51:x10_4.length < 17592186044416
            ·rw[if_pos c51] at H
             have LMc51:=zA c51;clear c51;obtain⟨y120,hy120⟩: ∃ y_:List Int,y_=(x10_4++ [wrap64 (((rd_T71 x8_4 x17_4).f1) - (rd t112 x17_4))]):=⟨_,rfl⟩
             replace H:(aA.l1 k4 a2 y118 y120 t112 (wrap64 (x17_4+1)))=some (r1,r2):=by first|(rw[hy120];with_reducible exact H)|(have H2_:=(Option.bind_some _ _).symm.trans H;rw[hy120];with_reducible exact H2_)|(have H2_:=(Option.bind_some _ _).symm.trans H;with_reducible exact H2_)|with_reducible exact H|(rw[hy120];exact H)|exact H
             have Ny120:=zA hy120;clear hy120;have H':=zA H;clear H;obtain⟨Ao52,co52,eo52⟩:=Kd.N_slice HO_8.out;subst eo52;try go_wp2
             replace HO_8:=zA (Kd.N_drew HO_8.out);replace HO_10:=zA (Kd.R_drew HO_10.out);replace HO_15:=zA (Kd.R_drew HO_15.out);replace HB:=zA (zC HB.out);have p116:0≤(x17_4:Int):=qO_;have q116:x17_4 < (x8_4.length:Int):=qO_;obtain⟨ad116,A116_4,c116_4,e116,hx116_0,hx116_1,hx116_2,hx116_3,hx116_4,hl116_4,hi116_4⟩:=at_T71 (Kd.N_reads' HO_8.out).2.2 x17_4 p116 q116;cases e116
             obtain⟨ce116,hce116,hMe116,hcc116⟩:=Kd.N_get HO_8.out z71 x17_4 p116 (by first|exact q116|exact qO_|(have e_:=(Kd.N_reads' HO_8.out).1;omega));obtain⟨ua116_4,uc116_4,rfl,ul116_4,ge116_4⟩:=k71_openF hMe116;have hv116_4:=hcc116 4 _ rfl;rw[add_field _ _ 4 (by omega)] at hv116_4;replace hv116_4:=zKq (hv116_4.symm.trans hx116_4);injection hv116_4 with hva_ hvn_ hvc_
             rw[hva_] at ge116_4;rw[hvc_] at ul116_4;have HL116_4:=zA (show Kd.V Kd.string 9 _ w.heap.size _ _ ((rd_T71 x8_4 x17_4).f4)from Kd.V_mk ul116_4 ge116_4);clear hva_ hvn_ hvc_ ge116_4 ul116_4;clear hcc116 hce116;have HR116_4:=zA hi116_4;have HC116_4:=zA hl116_4;clear hi116_4 hl116_4;replace p116:=eq_true p116;replace q116:=eq_true q116;obtain⟨Ao54,co54,eo54⟩:=Kd.R_slice HO_15.out;(first|subst eo54|(injection eo54 with f1_ f2_ f3_;have f4_:=f1_.symm;have f5_:=f3_.symm;clear f1_ f2_ f3_;subst f4_;subst f5_))
             have p117:0≤(x17_4:Int):=qO_;have q117:x17_4 < (t112.length:Int):=qO_;obtain⟨ad117,e117,hx117_0⟩:=Kd.at_int (Kd.R_reads' HO_15.out).2.2 x17_4 p117 q117;cases e117
             replace p117:=eq_true p117;replace q117:=eq_true q117;have p49:0≤(x17_4:Int):=qO_;have q49:(x17_4:Int) < ((x8_4.length:Int):Int):=qO_;obtain⟨go49,co49,eo49,gb49,gl49,cl49,HG49⟩:=Kd.N_form HO_8.out (by omega);(first|cases eo49|(injection eo49 with ea_ en_ ec_;(first|subst ea_|(injection ea_ with ea_;subst ea_));subst ec_;clear en_))
             have GB49:=zA gb49;have GG49:=zA HG49;clear gb49 gl49 HG49;(first|simp only[add_plain] at hx116_0|skip)
             (first|simp only[add_plain] at hx116_1|skip)
             (first|simp only[add_plain] at hx116_2|skip)
             (first|simp only[add_plain] at hx116_3|skip)
             (first|simp only[add_plain] at hx116_4|skip)
             obtain⟨ce49,hcl49,hM49,hcc49,hfr49⟩:=Kd.N_elem HO_8.out z71 (x17_4:Int) p49 q49;obtain⟨ua49_4,uc49_4,rfl,ul49_4,ge49_4⟩:=k71_openF hM49;have hx49_0:World.cell? _ ⟨go49,(x17_4:Int).toNat * 5,none⟩=some (.int .i64 ((rd_T71 x8_4 x17_4).f0)):=hcc49 0 _ rfl;have hx49_1:World.cell? _ ⟨go49,(x17_4:Int).toNat * 5+1,none⟩=some (.int .i64 ((rd_T71 x8_4 x17_4).f1)):=hcc49 1 _ rfl;have hx49_2:World.cell? _ ⟨go49,(x17_4:Int).toNat * 5+2,none⟩=some (.int .i64 ((rd_T71 x8_4 x17_4).f2)):=hcc49 2 _ rfl;have hx49_3:World.cell? _ ⟨go49,(x17_4:Int).toNat * 5+3,none⟩=some (.int .i64 ((rd_T71 x8_4 x17_4).f3)):=hcc49 3 _ rfl;have hx49_4:World.cell? _ ⟨go49,(x17_4:Int).toNat * 5+4,none⟩=some (.slice ua49_4 ((rd_T71 x8_4 x17_4).f4).length uc49_4):=hcc49 4 _ rfl;have hf49_0:World.frozen? _ ⟨go49,(x17_4:Int).toNat * 5,none⟩=false:=hfr49 0;have hf49_1:World.frozen? _ ⟨go49,(x17_4:Int).toNat * 5+1,none⟩=false:=hfr49 1;have hf49_2:World.frozen? _ ⟨go49,(x17_4:Int).toNat * 5+2,none⟩=false:=hfr49 2;have hf49_3:World.frozen? _ ⟨go49,(x17_4:Int).toNat * 5+3,none⟩=false:=hfr49 3;have hf49_4:World.frozen? _ ⟨go49,(x17_4:Int).toNat * 5+4,none⟩=false:=hfr49 4;clear hcl49 hcc49 hfr49 hM49;replace p49:=eq_true p49;replace q49:=eq_true q49;have HX55:=zA (show Kd.N k71 71 _ w.heap.size (fun k_=> (P0_ k_∨w.heap.size≤k_)∧some k_≠(u10:Value).ownBlock∧some k_≠(.slice (some ad117) t112.length co54:Value).ownBlock) (.slice (some ⟨go49,0,none⟩) x8_4.length co52) x8_4 from(Kd.N_mono (HO_8.out) (fun k_ hk=> ⟨hk.1,⟨hk.2.1,hk.2.2⟩⟩)));obtain⟨ce55,hcl55,hM55,hcc55,hfr55⟩:=Kd.N_elem HX55.out z71 (x17_4:Int) (qO_) (by have h_:(x17_4:Int) < ((x8_4.length:Int):Int):=qO_;first|exact h_|(have e_:=(Kd.N_reads' HO_8.out).1;omega)|simpa using h_);obtain⟨ua55_4,uc55_4,rfl,ul55_4,ge55_4⟩:=k71_openF hM55;have HP55:=(Kd.N_seg HX55.out (x17_4:Int) (qO_) (by have h_:(x17_4:Int) < ((x8_4.length:Int):Int):=qO_;first|exact h_|(have e_:=(Kd.N_reads' HO_8.out).1;omega)|simpa using h_) (seg:=[.int .i64 (wrap64 (((rd_T71 x8_4 x17_4).f1) - (rd t112 x17_4)))]) (j:=2) hcl55 hcc55 (show 3≤5 from by decide) (x':=(⟨(rd_T71 x8_4 x17_4).f0,(rd_T71 x8_4 x17_4).f1,wrap64 (((rd_T71 x8_4 x17_4).f1) - (rd t112 x17_4)),(rd_T71 x8_4 x17_4).f3,(rd_T71 x8_4 x17_4).f4⟩:S71)) (k71_mkF _ _ (⟨(rd_T71 x8_4 x17_4).f0,(rd_T71 x8_4 x17_4).f1,wrap64 (((rd_T71 x8_4 x17_4).f1) - (rd t112 x17_4)),(rd_T71 x8_4 x17_4).f3,(rd_T71 x8_4 x17_4).f4⟩:S71) ul55_4 ge55_4) (fun _ hk=>hk)).1;rw[←Ny118.out] at HP55;have HQ55:=zA HP55;clear hcl55 hcc55 hfr55 hM55 HP55;refine start_ (n:=15) (S:=fun w'=>w'.cell? ⟨go49,((x17_4).toNat * 5),none⟩=some (.int .i64 ((rd_T71 x8_4 x17_4).f0))∧w'.cell? ⟨go49,((x17_4).toNat * 5)+1,none⟩=some (.int .i64 ((rd_T71 x8_4 x17_4).f1))∧w'.cell? ⟨go49,((x17_4).toNat * 5)+2,none⟩=some (.int .i64 ((rd_T71 x8_4 x17_4).f2))∧w'.cell? ⟨go49,((x17_4).toNat * 5)+3,none⟩=some (.int .i64 ((rd_T71 x8_4 x17_4).f3))∧w'.cell? ⟨go49,((x17_4).toNat * 5)+4,none⟩=some (.slice A116_4 ((rd_T71 x8_4 x17_4).f4).length c116_4)∧w'.cell? (ad117.add (x17_4).toNat)=some (.int .i64 (rd t112 x17_4))) (ds:=[14]) #[Z,Z,Z,Z,Z,Z,Z,Z,Z,Z,Z,Z,Z,Z,Z] (by kernel_rfl) rfl rfl ⟨hx116_0,hx116_1,hx116_2,hx116_3,hx116_4,hx117_0⟩ (fun hHeld=>?_);refine with_tabW aA.tab24 aA.bits24 (fun HT_ HW_=>?_)
             generalize wr.drew=w53 at HO_8 HO_10 HO_15 HB GG49 HL116_4 HQ55 HR116_4 hf49_0 hf49_1 hf49_2 hf49_3 hf49_4 hx116_0 hx116_1 hx116_2 hx116_3 hx116_4 hx117_0 hx49_0 hx49_1 hx49_2 hx49_3 hx49_4 hHeld⊢;refine pure_ (i:=0) (N:=some 102) #[I,Z,Z,Z,Z,Z,Z,Z,Z,Z,Z,Z,Z,Z,Z] rfl rfl (any_of HT_.out (by kernel_rfl)) (fun _ _ _ h=>h) (Or.inl ⟨by rfl,qy⟩) qz ?_;refine pure_ (i:=1) (N:=some 103) #[I,I,Z,Z,Z,Z,Z,Z,Z,Z,Z,Z,Z,Z,Z] rfl rfl (any_of HT_.out (by kernel_rfl)) (fun _ _ _ h=>h) (Or.inl ⟨by rfl,qy⟩) qz ?_;refine pure_ (i:=2) (N:=some 104) #[I,I,I,Z,Z,Z,Z,Z,Z,Z,Z,Z,Z,Z,Z] rfl rfl (any_of HT_.out (by kernel_rfl)) (fun _ _ _ h=>h) (Or.inl ⟨by rfl,qy⟩) qz ?_;refine pure_ (i:=3) (N:=some 105) #[I,I,I,I,Z,Z,Z,Z,Z,Z,Z,Z,Z,Z,Z] rfl rfl (any_of HT_.out (by kernel_rfl)) (fun _ _ _ h=>h) (Or.inl ⟨by rfl,qy⟩) qz ?_;refine pure_ (i:=4) (N:=some 106) #[I,I,I,I,I,Z,Z,Z,Z,Z,Z,Z,Z,Z,Z] rfl rfl (any_of HT_.out (by kernel_rfl)) (fun _ _ _ h=>h) (Or.inl ⟨by rfl,qy⟩) qz ?_;refine pure_ (i:=5) (N:=some 107) #[I,I,I,I,I,I,Z,Z,Z,Z,Z,Z,Z,Z,Z] rfl rfl (any_of HT_.out (by kernel_rfl)) (fun _ _ _ h=>h) (Or.inl ⟨by rfl,qy⟩) qz ?_;refine pure_ (i:=7) (N:=some 109) #[I,I,I,I,I,I,Z,I,Z,Z,Z,Z,Z,Z,Z] rfl rfl (any_of HT_.out (by kernel_rfl)) (fun _ _ _ h=>h) (Or.inl ⟨by rfl,qy⟩) qz ?_;refine pure_ (i:=8) (N:=some 110) #[I,I,I,I,I,I,Z,I,I,Z,Z,Z,Z,Z,Z] rfl rfl (any_of HT_.out (by kernel_rfl)) (fun _ _ _ h=>h) (Or.inl ⟨by rfl,qy⟩) qz ?_;refine pure_ (i:=9) (N:=some 111) #[I,I,I,I,I,I,Z,I,I,I,Z,Z,Z,Z,Z] rfl rfl (any_of HT_.out (by kernel_rfl)) (fun _ _ _ h=>h) (Or.inl ⟨by rfl,qy⟩) qz ?_;refine take_ (i:=6) (N:=some 108) (v:=?_) (a':=?_) #[I,I,I,I,I,I,I,I,I,I,Z,Z,Z,Z,Z] rfl rfl (take_ofW HT_.out HW_.out (by kernel_rfl)) (fun _ _ _ h=>h) (Or.inl ⟨by rfl,?_⟩) hHeld ?_ ?_;rotate_left
             ·rintro w' ⟨s0,s1,s2,s3,s4,s5⟩
              go_simp;with_reducible rfl
             rotate_left
             ·simp only[Act.put,zH,zI,zJ,i64_w,i32_w]
              rfl
             refine take_ (i:=10) (N:=some 112) (v:=?_) (a':=?_) #[I,I,I,I,I,I,I,I,I,I,I,Z,Z,Z,Z] rfl rfl (take_ofW HT_.out HW_.out (by kernel_rfl)) (fun _ _ _ h=>h) (Or.inl ⟨by rfl,?_⟩) hHeld ?_ ?_;rotate_left
             ·rintro w' ⟨s0,s1,s2,s3,s4,s5⟩
              go_simp;with_reducible rfl
             rotate_left
             ·simp only[Act.put,zH,zI,zJ,i64_w,i32_w]
              rfl
             refine pure_ (i:=11) (N:=some 113) #[I,I,I,I,I,I,I,I,I,I,I,I,Z,Z,Z] rfl rfl (any_of HT_.out (by kernel_rfl)) (fun _ _ _ h=>h) (Or.inl ⟨by rfl,qy⟩) qz ?_;refine pure_ (i:=12) (N:=some 114) #[I,I,I,I,I,I,I,I,I,I,I,I,I,Z,Z] rfl rfl (any_of HT_.out (by kernel_rfl)) (fun _ _ _ h=>h) (Or.inl ⟨by rfl,qy⟩) qz ?_;refine pure_ (i:=13) (N:=some 115) #[I,I,I,I,I,I,I,I,I,I,I,I,I,I,Z] rfl rfl (any_of HT_.out (by kernel_rfl)) (fun _ _ _ h=>h) (Or.inl ⟨by rfl,qy⟩) qz ?_;refine last_ (i:=14) (N:=none) #[I,I,I,I,I,I,I,I,I,I,I,I,I,I,I] rfl rfl (one_of HT_.out (by kernel_rfl)) (by decide) (fun K hK=>?_);refine skip_ (w1:=?_) (by rfl) rfl ?_ ?_;rotate_left
             ·go_simp
              rfl
             refine hK.out _ _ ?_;clear hK K;refine done_ (done_of HT_.out (by kernel_rfl)) ?_;have p50:0≤(x17_4:Int):=qO_;have q50:(x17_4:Int) < ((x8_4.length:Int):Int):=qO_;replace p50:=eq_true p50;replace q50:=eq_true q50;try go_wp2_with (first|((with_reducible refine gate_builtin (b:= .append) (xs:= #[.tmp 116,.tmp 122]) rfl ?_);(try(refine gate_guard (by rfl) ?_;dsimp only));at_builtin;refine Kd.R_append (Kd.int .i64) (w0:=w) w.heap.size rfl (.tmp 116) (.tmp 122) 22 3 (.int .i64 0) 8 rfl Try.underlying22 info3 rfl (by decide) (by omega) u10 x10_4 (wrap64 (((rd_T71 x8_4 x17_4).f1) - (rd t112 x17_4))) [.int .i64 (wrap64 (((rd_T71 x8_4 x17_4).f1) - (rd t112 x17_4)))] (fun k_=> (w.heap.size≤k_)∧some k_≠(.slice (some ad117) t112.length co54:Value).ownBlock) (fun _=>False) rfl (by first|(go_simp;done)|(go_simp;rfl)) ?aP (fun _ hk=>hk.elim) ?aF ?aO ?aB ?aS ?aL ?_;(case aP=>exact rfl);(case aB=>exact(by repeat(first|(with_reducible first|exact HB.out|apply zD|apply zB|apply zC|refine zE ?_ GB49.out)|exact HB.out)));(case aF=>exact(fun k_ hk=> ⟨(Nat.le_trans (zW (by repeat(first|(with_reducible first|exact HB.out|apply zD|apply zB|apply zC|refine zE ?_ GB49.out)|exact HB.out))) hk),Kd.fresh' (Kd.R_lt (by(with_reducible repeat(first|apply Kd.R_alloc|apply Kd.R_drewN|apply Kd.R_drew));exact(Kd.R_mono (Kd.R_far (p:=⟨go49,(x17_4:Int).toNat * 5+2,none⟩) (Kd.R_types HO_15.out GG49.out (by decide)) (fun _ hk=>hk.2) (.int .i64 (wrap64 (((rd_T71 x8_4 x17_4).f1) - (rd t112 x17_4))))) (fun _ h_=>h_.1)))) k_ hk⟩));(case aO=>exact(by(with_reducible repeat(first|apply Kd.R_alloc|apply Kd.R_drewN|apply Kd.R_drew));exact Kd.R_mono (Kd.R_far (p:=⟨go49,(x17_4:Int).toNat * 5+2,none⟩) (Kd.R_types HO_10.out GG49.out (by decide)) (fun _ hk=>hk.2) (.int .i64 (wrap64 (((rd_T71 x8_4 x17_4).f1) - (rd t112 x17_4))))) (fun _ hk=> ⟨hk.1.1,hk.1.2⟩)));(case aS=>exact(zW (by repeat(first|(with_reducible first|exact HB.out|apply zD|apply zB|apply zC|refine zE ?_ GB49.out)|exact HB.out))));(case aL=>have:=LMc51.out;omega);intro v121 w56 ho hb hg hat;rw[←Ny120.out] at ho;replace HO_8:=zA (Kd.N_afterv (ok:=(fun k_=> (P0_ k_∨w.heap.size≤k_)∧some k_≠(.slice (some ad117) t112.length co54:Value).ownBlock)) (by(with_reducible repeat(first|apply Kd.N_alloc|apply Kd.N_drewN|apply Kd.N_drew));exact Kd.N_mono HQ55.out (fun _ hk=> ⟨⟨hk.1,hk.2.2⟩,hk.2.1⟩)) hg hat);replace HO_15:=zA (Kd.R_after (ok:=(fun k_=> (w.heap.size≤k_))) (by(with_reducible repeat(first|apply Kd.R_alloc|apply Kd.R_drewN|apply Kd.R_drew));exact Kd.R_mono (Kd.R_far (p:=⟨go49,(x17_4:Int).toNat * 5+2,none⟩) (Kd.R_types HO_15.out GG49.out (by decide)) (fun _ hk=>hk.2) (.int .i64 (wrap64 (((rd_T71 x8_4 x17_4).f1) - (rd t112 x17_4))))) (fun _ hk=> ⟨hk.1.1,hk.1.2⟩)) hg hat);replace HL116_4:=zA (Kd.V_afterv (ok:=(fun k_=> (P0_ k_∨w.heap.size≤k_)∧some k_≠(.slice (some ⟨go49,0,none⟩) x8_4.length co52:Value).ownBlock∧some k_≠(.slice (some ad117) t112.length co54:Value).ownBlock)) (by(with_reducible repeat(first|apply Kd.V_alloc|apply Kd.V_drewN|apply Kd.V_drew));exact Kd.V_mono (Kd.V_far (p:=⟨go49,(x17_4:Int).toNat * 5+2,none⟩) (Kd.V_mono HL116_4.out (fun k_ hk=> (⟨hk,fun e_=>hk.2 (by rw[e_];rfl)⟩:_∧k_≠go49))) (fun _ hk=>hk.2) (.int .i64 (wrap64 (((rd_T71 x8_4 x17_4).f1) - (rd t112 x17_4))))) (fun _ hk=> ⟨⟨hk.1.1.1,⟨hk.1.2,hk.1.1.2.2⟩⟩,hk.1.1.2.1⟩)) hg hat);replace HB:=zA (hb);have HO122:=zA (ho);clear HO_10 ho hb hg hat))
             go_roundg k4
             case measure=>have:=HJ3.out;have:=HK2.out;have:=HJ35.out;have:=HK4.out;omega
             case rel=>exact⟨(y118),(y120),(wrap64 (x17_4+1)),qF_,H',⟨by have:=HJ3.out;have:=HK2.out;have:=HJ35.out;have:=HK4.out;omega⟩,⟨by(with_reducible repeat(first|apply Kd.N_alloc|apply Kd.N_drewN|apply Kd.N_drew));exact Kd.N_mono HO_8.out (fun _ hk=> ⟨hk.1.1,⟨hk.2,hk.1.2⟩⟩)⟩,⟨qR_ HO122.out⟩,⟨qR_ HO_15.out⟩,⟨qB⟩⟩
            rw[if_neg c51] at H;exact absurd H (by simp)
           rw[if_neg c48] at H;exact absurd H (by simp)
          rw[if_neg c47] at H;exact absurd H (by simp)
         rw[if_neg c46] at H;have c46b0:=zGq c46;clear c46;obtain⟨⟨t123,t124⟩,A57,H⟩:=qD_ H;(try dsimp only at H);have H':=zA H;clear H;obtain⟨Ao58,co58,eo58⟩:=Kd.N_slice HO_8.out;subst eo58;obtain⟨Ao59,co59,eo59⟩:=Kd.R_slice HO_10.out;subst eo59;go_wp2_with (first|((with_reducible refine zJq (f:=52) rfl ?_);refine goesL_ (some 127) rfl rfl Try.func52 (by kernel_rfl) rfl #[.int .i64 a2,.slice Ao59 x10_4.length co59] rfl qG ?_;(with_reducible refine(aC.calls k4 a2 _ _ x10_4 t123 t124 _ ?side1 ?side2 A57.out).mono ?_);(case side1=>repeat(first|exact(Kd.R_reads' HO_10.out).2.2|(with_reducible refine Kd.C_alloc ?_ _)|(with_reducible refine Kd.C_drewN ?_ _)|(with_reducible refine Kd.C_drew ?_)));(case side2=>exact(Kd.R_reads' HO_10.out).2.1);rintro e w60 ⟨v125,rfl,ho0,hb⟩;refine⟨_,rfl,?_⟩;replace HO_8:=zA (Kd.N_elder' (qN_ HO_8.out) (Kd.R_base ho0) hb);have HO126:=zA (Kd.R_lower (Kd.R_new' (Kd.R_new' (Kd.R_newM (M:=fun k_=> (w.heap.size≤k_)) ho0 (zW qB) (fun k_ h_=>h_)) (Kd.R_lt (qR_ HO_10.out))) (Kd.R_lt (qR_ HO_15.out))) (zW qB));replace HO_10:=zA (Kd.R_elder' (qR_ HO_10.out) (Kd.R_base ho0) hb);replace HO_15:=zA (Kd.R_elder' (qR_ HO_15.out) (Kd.R_base ho0) hb);replace HB:=zA (zV qB hb);(try clear hb);(try clear ho0)));go_loopg[20] k4 (fun kq v20 w'=> ∃ (x8_5:List (S71)) (x20_5:Int),v20= .int .i64 x20_5∧Aside0 (aA.l2 kq x8_5 t123 x20_5=some (r1,r2))∧Aside0 (kq≤k4)∧Aside0 (Kd.N k71 71 w' w.heap.size (fun k_=> (P0_ k_∨w.heap.size≤k_)∧some k_≠(v125:Value).ownBlock) (.slice Ao58 x8_4.length co58) x8_5)∧Aside0 (Kd.R (Kd.int .i64) 3 w' w.heap.size (fun k_=> (w.heap.size≤k_)) v125 t123)∧Aside0 (Below w.heap.size w w'))
         case atStart=>exact⟨(x8_4),(0),qF_,H',⟨Nat.le_refl _⟩,⟨by(with_reducible repeat(first|apply Kd.N_alloc|apply Kd.N_drewN|apply Kd.N_drew));exact Kd.N_mono HO_8.out (fun _ hk=> ⟨hk.1.1,hk.2⟩)⟩,⟨by(with_reducible repeat(first|apply Kd.R_alloc|apply Kd.R_drewN|apply Kd.R_drew));exact Kd.R_mono HO126.out (fun _ hk=>hk.1.1.1)⟩,⟨qB⟩⟩
         case round=>
          clear H';try clear c1
          try clear p1
          try clear q1
          try clear hx1
          try clear p2
          try clear c3
          try clear c4
          try clear p4
          try clear q4
          try clear hx4
          try clear hf4
          try clear c5
          try clear c5b0
          try clear c5b1
          try clear c5b2
          try clear p5
          try clear q5
          try clear c6
          try clear p6
          try clear c7
          try clear c7b0
          try clear c8
          try clear c8b0
          try clear c10
          try clear c10b0
          try clear c10b1
          try clear p10
          try clear q10
          try clear hx10
          try clear c11
          try clear p11
          try clear q11
          try clear hx11
          try clear c12
          try clear c37
          try clear c37b0
          try clear c38
          try clear c38b0
          try clear c39
          try clear c39b0
          try clear c40
          try clear c40b0
          try clear c41
          try clear c42
          try clear c42b0
          try clear c46
          try clear c46b0
          try clear c47
          try clear c47b0
          try clear c48
          try clear c48b0
          try clear c49
          try clear p49
          try clear q49
          try clear hx49
          try clear hf49
          try clear p50
          try clear q50
          try clear c51
          try clear c52
          try clear c55
          try clear hcz34_0
          try clear hcz34_1
          try clear hcz34_2
          try clear hcz34_3
          try clear hcz34_4
          try clear hfz34_0
          try clear hfz34_1
          try clear hfz34_2
          try clear hfz34_3
          try clear hfz34_4
          try clear hx101_0
          try clear hx101_1
          try clear hx101_2
          try clear hx101_3
          try clear hx101_4
          try clear hx116_0
          try clear hx116_1
          try clear hx116_2
          try clear hx116_3
          try clear hx116_4
          try clear hx117_0
          try clear hx49_0
          try clear hx49_1
          try clear hx49_2
          try clear hx49_3
          try clear hx49_4
          try clear p1
          try clear p10
          try clear p101
          try clear p116
          try clear p117
          try clear p2
          try clear p49
          try clear p50
          try clear p6
          try clear q1
          try clear q10
          try clear q101
          try clear q116
          try clear q117
          try clear q49
          try clear q50
          obtain⟨x8_5,x20_5,rfl,HA,HK5,HO_8,HO_18,HB⟩:=hrel;have hl8_5:=(Kd.N_reads' HO_8.out).1;rw[hl8_5] at HO_8;(try simp only[hl8_5])
          (try simp only[hl8_5] at HO_18)
          cases gk with
          |zero=>exact absurd HA.out (by simp[aA.l2])
          |succ k5=>
           have H:=HA.out;clear HA;simp only[aA.l2] at H;by_cases c61:x20_5 < (x8_5.length:Int)
           ·rw[if_pos c61] at H
            have c61b0:=zFq c61;clear c61;by_cases c62:0≤x20_5
            ·rw[if_pos c62] at H
             have c62b0:=zFq c62;clear c62;by_cases c63:x20_5 < (t123.length:Int)
             ·rw[if_pos c63] at H
              have c63b0:=zFq c63;try have c63e8_5:decide (x20_5 < (x8_5.length:Int))=true:=by rw[←hl8_5];exact c63b0
              clear c63;obtain⟨y128,hy128⟩: ∃ y_:List (S71),y_=(x8_5.set (x20_5:Int).toNat (⟨(rd_T71 x8_5 x20_5).f0,(rd_T71 x8_5 x20_5).f1,(rd_T71 x8_5 x20_5).f2,rd t123 x20_5,(rd_T71 x8_5 x20_5).f4⟩:S71)):=⟨_,rfl⟩
              replace H:((aE.f k5 ((rd_T71 y128 x20_5).f0) ((rd_T71 y128 x20_5).f1) ((rd_T71 y128 x20_5).f2) ((rd_T71 y128 x20_5).f3) ((rd_T71 y128 x20_5).f4)).bind fun t130=> (if t130=0 then(aA.l2 k5 y128 t123 (wrap64 (x20_5+1)))else(some (([] :List (S71)),8))))=some (r1,r2):=by first|(rw[hy128];with_reducible exact H)|(have H2_:=(Option.bind_some _ _).symm.trans H;rw[hy128];with_reducible exact H2_)|(have H2_:=(Option.bind_some _ _).symm.trans H;with_reducible exact H2_)|with_reducible exact H|(rw[hy128];exact H)|exact H
              have Ny128:=zA hy128;clear hy128;obtain⟨t130,A65,H⟩:=qD_ H;(try dsimp only at H);by_cases c66:t130=0
              ·rw[if_pos c66] at H
               have c66b0:(t130==0)=true:=beq_iff_eq.mpr c66;have c66b1:(t130 != 0)=false:=bne_eq_false_iff_eq.mpr c66;clear c66;have H':=zA H;clear H;obtain⟨Ao67,co67,eo67⟩:=Kd.R_slice HO_18.out;subst eo67;have p127:0≤(x20_5:Int):=qO_;have q127:x20_5 < (t123.length:Int):=qO_;obtain⟨ad127,e127,hx127_0⟩:=Kd.at_int (Kd.R_reads' HO_18.out).2.2 x20_5 p127 q127;cases e127
               replace p127:=eq_true p127;replace q127:=eq_true q127;have p64:0≤(x20_5:Int):=qO_;have q64:(x20_5:Int) < ((x8_5.length:Int):Int):=qO_;obtain⟨go64,co64,eo64,gb64,gl64,cl64,HG64⟩:=Kd.N_form HO_8.out (by omega);(first|cases eo64|(injection eo64 with ea_ en_ ec_;(first|subst ea_|(injection ea_ with ea_;subst ea_));subst ec_;clear en_))
               have GB64:=zA gb64;have GG64:=zA HG64;clear gb64 gl64 HG64;obtain⟨ce64,hcl64,hM64,hcc64,hfr64⟩:=Kd.N_elem HO_8.out z71 (x20_5:Int) p64 q64;obtain⟨ua64_4,uc64_4,rfl,ul64_4,ge64_4⟩:=k71_openF hM64;have hx64_0:wr.cell? ⟨go64,(x20_5:Int).toNat * 5,none⟩=some (.int .i64 ((rd_T71 x8_5 x20_5).f0)):=hcc64 0 _ rfl;have hx64_1:wr.cell? ⟨go64,(x20_5:Int).toNat * 5+1,none⟩=some (.int .i64 ((rd_T71 x8_5 x20_5).f1)):=hcc64 1 _ rfl;have hx64_2:wr.cell? ⟨go64,(x20_5:Int).toNat * 5+2,none⟩=some (.int .i64 ((rd_T71 x8_5 x20_5).f2)):=hcc64 2 _ rfl;have hx64_3:wr.cell? ⟨go64,(x20_5:Int).toNat * 5+3,none⟩=some (.int .i64 ((rd_T71 x8_5 x20_5).f3)):=hcc64 3 _ rfl;have hx64_4:wr.cell? ⟨go64,(x20_5:Int).toNat * 5+4,none⟩=some (.slice ua64_4 ((rd_T71 x8_5 x20_5).f4).length uc64_4):=hcc64 4 _ rfl;have hf64_0:wr.frozen? ⟨go64,(x20_5:Int).toNat * 5,none⟩=false:=hfr64 0;have hf64_1:wr.frozen? ⟨go64,(x20_5:Int).toNat * 5+1,none⟩=false:=hfr64 1;have hf64_2:wr.frozen? ⟨go64,(x20_5:Int).toNat * 5+2,none⟩=false:=hfr64 2;have hf64_3:wr.frozen? ⟨go64,(x20_5:Int).toNat * 5+3,none⟩=false:=hfr64 3;have hf64_4:wr.frozen? ⟨go64,(x20_5:Int).toNat * 5+4,none⟩=false:=hfr64 4;clear hcl64 hcc64 hfr64 hM64;replace p64:=eq_true p64;replace q64:=eq_true q64;have HX68:=zA (show Kd.N k71 71 wr w.heap.size (fun k_=> (P0_ k_∨w.heap.size≤k_)∧some k_≠(.slice (some ad127) t123.length co67:Value).ownBlock) (.slice (some ⟨go64,0,none⟩) x8_5.length co58) x8_5 from(qN_ HO_8.out));obtain⟨ce68,hcl68,hM68,hcc68,hfr68⟩:=Kd.N_elem HX68.out z71 (x20_5:Int) (qO_) (by have h_:(x20_5:Int) < ((x8_5.length:Int):Int):=qO_;first|exact h_|(have e_:=(Kd.N_reads' HO_8.out).1;omega)|simpa using h_);obtain⟨ua68_4,uc68_4,rfl,ul68_4,ge68_4⟩:=k71_openF hM68;have HP68:=Kd.N_seg HX68.out (x20_5:Int) (qO_) (by have h_:(x20_5:Int) < ((x8_5.length:Int):Int):=qO_;first|exact h_|(have e_:=(Kd.N_reads' HO_8.out).1;omega)|simpa using h_) (seg:=[.int .i64 (rd t123 x20_5)]) (j:=3) hcl68 hcc68 (show 4≤5 from by decide) (x':=(⟨(rd_T71 x8_5 x20_5).f0,(rd_T71 x8_5 x20_5).f1,(rd_T71 x8_5 x20_5).f2,rd t123 x20_5,(rd_T71 x8_5 x20_5).f4⟩:S71)) (k71_mkF _ _ (⟨(rd_T71 x8_5 x20_5).f0,(rd_T71 x8_5 x20_5).f1,(rd_T71 x8_5 x20_5).f2,rd t123 x20_5,(rd_T71 x8_5 x20_5).f4⟩:S71) ul68_4 ge68_4) (fun _ hk=>hk);have hx68_3:=hcc68 3 _ rfl;(try simp only[show(k71).sz=5 from rfl,Nat.mul_one,Nat.add_zero] at hx68_3)
               have hf68_3:=hfr68 3;(try simp only[show(k71).sz=5 from rfl,Nat.mul_one,Nat.add_zero] at hf68_3)
               clear hcl68 hcc68 hfr68 hM68;go_wp2_with (first|((with_reducible refine gate_store (t:=3) (p:=143) rfl ?_);refine store_event (t:=3) (p:=143) (v:=?vo_w69) (w1:=(wr.setCell ⟨go64,(x20_5:Int).toNat * 5+3,none⟩ (.int .i64 (rd t123 x20_5)))) ?hg ?ho ?hn ?hr ?_;(case ho=>rfl);(case hg=>rfl);(case hn=>rfl);(case hr=>first|(go_simp;done)|(go_simp;rfl));intro w69 hw;have hg:wr.grownBy w69 (some go64):=(by rw[hw];exact HP68.2);have hp_:Kd.N k71 71 w69 w.heap.size (fun k_=> (P0_ k_∨w.heap.size≤k_)∧some k_≠(.slice (some ad127) t123.length co67:Value).ownBlock) (.slice (some ⟨go64,0,none⟩) x8_5.length co58) y128:=(by rw[hw,Ny128.out];exact HP68.1);clear HP68;replace HO_18:=zA (Kd.R_over' (v:=(.slice (some ⟨go64,0,none⟩) x8_5.length co58)) (qR_ HO_18.out) (Kd.N_typed HO_8.out) (by decide) hg);replace HO_8:=zA (hp_);replace HB:=zA ((by rw[hw];exact zE (HB.out) GB64.out:Below w.heap.size w w69));clear hg hw hp_;have p129:0≤(x20_5:Int):=qO_;have q129:x20_5 < (y128.length:Int):=(by have h_:(x20_5:Int) < ((x8_5.length:Int):Int):=qO_;first|(have e_:=(Kd.N_reads' HO_8.out).1;omega)|simpa only[Ny128.out,List.length_set] using h_);have ql129:((x20_5:Int) < ((x8_5.length:Int):Int))=True:=eq_true (qO_);obtain⟨ad129,A129_4,c129_4,e129,hx129_0,hx129_1,hx129_2,hx129_3,hx129_4,hl129_4,hi129_4⟩:=at_T71 (Kd.N_reads' HO_8.out).2.2 x20_5 p129 q129;obtain rfl:(⟨go64,0,none⟩:Addr)=ad129:=(by injection e129);obtain⟨ce129,hce129,hMe129,hcc129⟩:=Kd.N_get HO_8.out z71 x20_5 p129 (by first|exact q129|exact qO_|(have e_:=(Kd.N_reads' HO_8.out).1;omega));obtain⟨ua129_4,uc129_4,rfl,ul129_4,ge129_4⟩:=k71_openF hMe129;have hv129_4:=hcc129 4 _ rfl;rw[add_field _ _ 4 (by omega)] at hv129_4;replace hv129_4:=zKq (hv129_4.symm.trans hx129_4);injection hv129_4 with hva_ hvn_ hvc_;rw[hva_] at ge129_4;rw[hvc_] at ul129_4;have HL129_4:=zA (show Kd.V Kd.string 9 _ w.heap.size _ _ ((rd_T71 y128 x20_5).f4)from Kd.V_mk ul129_4 ge129_4);clear hva_ hvn_ hvc_ ge129_4 ul129_4 hcc129 hce129;(first|simp only[add_plain] at hx129_0|simp only[add_at] at hx129_0|simp only[Addr.add,Nat.zero_add] at hx129_0|skip);(first|simp only[add_plain] at hx129_1|simp only[add_at] at hx129_1|simp only[Addr.add,Nat.zero_add] at hx129_1|skip);(first|simp only[add_plain] at hx129_2|simp only[add_at] at hx129_2|simp only[Addr.add,Nat.zero_add] at hx129_2|skip);(first|simp only[add_plain] at hx129_3|simp only[add_at] at hx129_3|simp only[Addr.add,Nat.zero_add] at hx129_3|skip);(first|simp only[add_plain] at hx129_4|simp only[add_at] at hx129_4|simp only[Addr.add,Nat.zero_add] at hx129_4|skip);have HR129_4:=zA hi129_4;have HC129_4:=zA hl129_4;clear hi129_4 hl129_4;replace p129:=eq_true p129;replace q129:=eq_true q129)|((with_reducible refine zJq (f:=70) rfl ?_);refine goesL_ (some 148) rfl rfl Try.func70 (by kernel_rfl) rfl #[.agg #[.int .i64 ((rd_T71 y128 x20_5).f0),.int .i64 ((rd_T71 y128 x20_5).f1),.int .i64 ((rd_T71 y128 x20_5).f2),.int .i64 ((rd_T71 y128 x20_5).f3),.slice A129_4 ((rd_T71 y128 x20_5).f4).length c129_4]] rfl qG ?_;(with_reducible refine(aE.calls k5 ((rd_T71 y128 x20_5).f0) ((rd_T71 y128 x20_5).f1) ((rd_T71 y128 x20_5).f2) ((rd_T71 y128 x20_5).f3) _ _ ((rd_T71 y128 x20_5).f4) t130 _ ?side1 ?side2 A65.out).mono ?_);(case side1=>repeat(first|exact(by repeat(first|(with_reducible exact HR129_4.out)|(with_reducible refine Kd.C_alloc ?_ _)|(with_reducible refine Kd.C_drewN ?_ _)|(with_reducible refine Kd.C_drew ?_)|exact HR129_4.out))|(with_reducible refine Kd.C_alloc ?_ _)|(with_reducible refine Kd.C_drewN ?_ _)|(with_reducible refine Kd.C_drew ?_)));(case side2=>exact HC129_4.out);rintro e w70 ⟨rfl,hb⟩;refine⟨_,rfl,?_⟩;replace HO_8:=zA (Kd.N_below (qN_ HO_8.out) hb);replace HO_18:=zA (Kd.R_below (qR_ HO_18.out) hb);replace HL129_4:=zA (Kd.V_below (qV_ HL129_4.out) hb);replace HR129_4:=zA (Kd.C_below (by repeat(first|(with_reducible exact HR129_4.out)|(with_reducible refine Kd.C_alloc ?_ _)|(with_reducible refine Kd.C_drewN ?_ _)|(with_reducible refine Kd.C_drew ?_)|exact HR129_4.out)) hb);replace HB:=zA (zV qB hb);(try clear hb)))
               (try simp only[←hl8_5])
               go_roundg k5
               case measure=>have:=HJ3.out;have:=HK2.out;have:=HJ35.out;have:=HK4.out;have:=HK5.out;omega
               case rel=>exact⟨(y128),(wrap64 (x20_5+1)),qF_,H',⟨by have:=HJ3.out;have:=HK2.out;have:=HJ35.out;have:=HK4.out;have:=HK5.out;omega⟩,⟨by(try simp only[hl8_5]);(with_reducible repeat(first|apply Kd.N_alloc|apply Kd.N_drewN|apply Kd.N_drew));exact HO_8.out⟩,⟨by(try simp only[hl8_5]);(with_reducible repeat(first|apply Kd.R_alloc|apply Kd.R_drewN|apply Kd.R_drew));exact HO_18.out⟩,⟨qB⟩⟩
              rw[if_neg c66] at H;have c66b0:(t130==0)=false:=beq_eq_false_iff_ne.mpr c66;have c66b1:(t130 != 0)=true:=bne_iff_ne.mpr c66;simp only[zNq,zOq] at H;obtain⟨rfl,rfl⟩:=H;obtain⟨Ao71,co71,eo71⟩:=Kd.R_slice HO_18.out;subst eo71;have p127:0≤(x20_5:Int):=qO_;have q127:x20_5 < (t123.length:Int):=qO_;obtain⟨ad127,e127,hx127_0⟩:=Kd.at_int (Kd.R_reads' HO_18.out).2.2 x20_5 p127 q127;cases e127
              replace p127:=eq_true p127;replace q127:=eq_true q127;have p64:0≤(x20_5:Int):=qO_;have q64:(x20_5:Int) < ((x8_5.length:Int):Int):=qO_;obtain⟨go64,co64,eo64,gb64,gl64,cl64,HG64⟩:=Kd.N_form HO_8.out (by omega);(first|cases eo64|(injection eo64 with ea_ en_ ec_;(first|subst ea_|(injection ea_ with ea_;subst ea_));subst ec_;clear en_))
              have GB64:=zA gb64;have GG64:=zA HG64;clear gb64 gl64 HG64;obtain⟨ce64,hcl64,hM64,hcc64,hfr64⟩:=Kd.N_elem HO_8.out z71 (x20_5:Int) p64 q64;obtain⟨ua64_4,uc64_4,rfl,ul64_4,ge64_4⟩:=k71_openF hM64;have hx64_0:wr.cell? ⟨go64,(x20_5:Int).toNat * 5,none⟩=some (.int .i64 ((rd_T71 x8_5 x20_5).f0)):=hcc64 0 _ rfl;have hx64_1:wr.cell? ⟨go64,(x20_5:Int).toNat * 5+1,none⟩=some (.int .i64 ((rd_T71 x8_5 x20_5).f1)):=hcc64 1 _ rfl;have hx64_2:wr.cell? ⟨go64,(x20_5:Int).toNat * 5+2,none⟩=some (.int .i64 ((rd_T71 x8_5 x20_5).f2)):=hcc64 2 _ rfl;have hx64_3:wr.cell? ⟨go64,(x20_5:Int).toNat * 5+3,none⟩=some (.int .i64 ((rd_T71 x8_5 x20_5).f3)):=hcc64 3 _ rfl;have hx64_4:wr.cell? ⟨go64,(x20_5:Int).toNat * 5+4,none⟩=some (.slice ua64_4 ((rd_T71 x8_5 x20_5).f4).length uc64_4):=hcc64 4 _ rfl;have hf64_0:wr.frozen? ⟨go64,(x20_5:Int).toNat * 5,none⟩=false:=hfr64 0;have hf64_1:wr.frozen? ⟨go64,(x20_5:Int).toNat * 5+1,none⟩=false:=hfr64 1;have hf64_2:wr.frozen? ⟨go64,(x20_5:Int).toNat * 5+2,none⟩=false:=hfr64 2;have hf64_3:wr.frozen? ⟨go64,(x20_5:Int).toNat * 5+3,none⟩=false:=hfr64 3;have hf64_4:wr.frozen? ⟨go64,(x20_5:Int).toNat * 5+4,none⟩=false:=hfr64 4;clear hcl64 hcc64 hfr64 hM64;replace p64:=eq_true p64;replace q64:=eq_true q64;have HX72:=zA (show Kd.N k71 71 wr w.heap.size (fun k_=> (P0_ k_∨w.heap.size≤k_)∧some k_≠(.slice (some ad127) t123.length co71:Value).ownBlock) (.slice (some ⟨go64,0,none⟩) x8_5.length co58) x8_5 from(qN_ HO_8.out));obtain⟨ce72,hcl72,hM72,hcc72,hfr72⟩:=Kd.N_elem HX72.out z71 (x20_5:Int) (qO_) (by have h_:(x20_5:Int) < ((x8_5.length:Int):Int):=qO_;first|exact h_|(have e_:=(Kd.N_reads' HO_8.out).1;omega)|simpa using h_);obtain⟨ua72_4,uc72_4,rfl,ul72_4,ge72_4⟩:=k71_openF hM72;have HP72:=Kd.N_seg HX72.out (x20_5:Int) (qO_) (by have h_:(x20_5:Int) < ((x8_5.length:Int):Int):=qO_;first|exact h_|(have e_:=(Kd.N_reads' HO_8.out).1;omega)|simpa using h_) (seg:=[.int .i64 (rd t123 x20_5)]) (j:=3) hcl72 hcc72 (show 4≤5 from by decide) (x':=(⟨(rd_T71 x8_5 x20_5).f0,(rd_T71 x8_5 x20_5).f1,(rd_T71 x8_5 x20_5).f2,rd t123 x20_5,(rd_T71 x8_5 x20_5).f4⟩:S71)) (k71_mkF _ _ (⟨(rd_T71 x8_5 x20_5).f0,(rd_T71 x8_5 x20_5).f1,(rd_T71 x8_5 x20_5).f2,rd t123 x20_5,(rd_T71 x8_5 x20_5).f4⟩:S71) ul72_4 ge72_4) (fun _ hk=>hk);have hx72_3:=hcc72 3 _ rfl;(try simp only[show(k71).sz=5 from rfl,Nat.mul_one,Nat.add_zero] at hx72_3)
              have hf72_3:=hfr72 3;(try simp only[show(k71).sz=5 from rfl,Nat.mul_one,Nat.add_zero] at hf72_3)
              clear hcl72 hcc72 hfr72 hM72;go_wp2_with (first|((with_reducible refine gate_store (t:=3) (p:=143) rfl ?_);refine store_event (t:=3) (p:=143) (v:=?vo_w73) (w1:=(wr.setCell ⟨go64,(x20_5:Int).toNat * 5+3,none⟩ (.int .i64 (rd t123 x20_5)))) ?hg ?ho ?hn ?hr ?_;(case ho=>rfl);(case hg=>rfl);(case hn=>rfl);(case hr=>first|(go_simp;done)|(go_simp;rfl));intro w73 hw;have hg:wr.grownBy w73 (some go64):=(by rw[hw];exact HP72.2);have hp_:Kd.N k71 71 w73 w.heap.size (fun k_=> (P0_ k_∨w.heap.size≤k_)∧some k_≠(.slice (some ad127) t123.length co71:Value).ownBlock) (.slice (some ⟨go64,0,none⟩) x8_5.length co58) y128:=(by rw[hw,Ny128.out];exact HP72.1);clear HP72;replace HO_18:=zA (Kd.R_over' (v:=(.slice (some ⟨go64,0,none⟩) x8_5.length co58)) (qR_ HO_18.out) (Kd.N_typed HO_8.out) (by decide) hg);replace HO_8:=zA (hp_);replace HB:=zA ((by rw[hw];exact zE (HB.out) GB64.out:Below w.heap.size w w73));clear hg hw hp_;have p129:0≤(x20_5:Int):=qO_;have q129:x20_5 < (y128.length:Int):=(by have h_:(x20_5:Int) < ((x8_5.length:Int):Int):=qO_;first|(have e_:=(Kd.N_reads' HO_8.out).1;omega)|simpa only[Ny128.out,List.length_set] using h_);have ql129:((x20_5:Int) < ((x8_5.length:Int):Int))=True:=eq_true (qO_);obtain⟨ad129,A129_4,c129_4,e129,hx129_0,hx129_1,hx129_2,hx129_3,hx129_4,hl129_4,hi129_4⟩:=at_T71 (Kd.N_reads' HO_8.out).2.2 x20_5 p129 q129;obtain rfl:(⟨go64,0,none⟩:Addr)=ad129:=(by injection e129);obtain⟨ce129,hce129,hMe129,hcc129⟩:=Kd.N_get HO_8.out z71 x20_5 p129 (by first|exact q129|exact qO_|(have e_:=(Kd.N_reads' HO_8.out).1;omega));obtain⟨ua129_4,uc129_4,rfl,ul129_4,ge129_4⟩:=k71_openF hMe129;have hv129_4:=hcc129 4 _ rfl;rw[add_field _ _ 4 (by omega)] at hv129_4;replace hv129_4:=zKq (hv129_4.symm.trans hx129_4);injection hv129_4 with hva_ hvn_ hvc_;rw[hva_] at ge129_4;rw[hvc_] at ul129_4;have HL129_4:=zA (show Kd.V Kd.string 9 _ w.heap.size _ _ ((rd_T71 y128 x20_5).f4)from Kd.V_mk ul129_4 ge129_4);clear hva_ hvn_ hvc_ ge129_4 ul129_4 hcc129 hce129;(first|simp only[add_plain] at hx129_0|simp only[add_at] at hx129_0|simp only[Addr.add,Nat.zero_add] at hx129_0|skip);(first|simp only[add_plain] at hx129_1|simp only[add_at] at hx129_1|simp only[Addr.add,Nat.zero_add] at hx129_1|skip);(first|simp only[add_plain] at hx129_2|simp only[add_at] at hx129_2|simp only[Addr.add,Nat.zero_add] at hx129_2|skip);(first|simp only[add_plain] at hx129_3|simp only[add_at] at hx129_3|simp only[Addr.add,Nat.zero_add] at hx129_3|skip);(first|simp only[add_plain] at hx129_4|simp only[add_at] at hx129_4|simp only[Addr.add,Nat.zero_add] at hx129_4|skip);have HR129_4:=zA hi129_4;have HC129_4:=zA hl129_4;clear hi129_4 hl129_4;replace p129:=eq_true p129;replace q129:=eq_true q129)|((with_reducible refine zJq (f:=70) rfl ?_);refine goesL_ (some 148) rfl rfl Try.func70 (by kernel_rfl) rfl #[.agg #[.int .i64 ((rd_T71 y128 x20_5).f0),.int .i64 ((rd_T71 y128 x20_5).f1),.int .i64 ((rd_T71 y128 x20_5).f2),.int .i64 ((rd_T71 y128 x20_5).f3),.slice A129_4 ((rd_T71 y128 x20_5).f4).length c129_4]] rfl qG ?_;(with_reducible refine(aE.calls k5 ((rd_T71 y128 x20_5).f0) ((rd_T71 y128 x20_5).f1) ((rd_T71 y128 x20_5).f2) ((rd_T71 y128 x20_5).f3) _ _ ((rd_T71 y128 x20_5).f4) t130 _ ?side1 ?side2 A65.out).mono ?_);(case side1=>repeat(first|exact(by repeat(first|(with_reducible exact HR129_4.out)|(with_reducible refine Kd.C_alloc ?_ _)|(with_reducible refine Kd.C_drewN ?_ _)|(with_reducible refine Kd.C_drew ?_)|exact HR129_4.out))|(with_reducible refine Kd.C_alloc ?_ _)|(with_reducible refine Kd.C_drewN ?_ _)|(with_reducible refine Kd.C_drew ?_)));(case side2=>exact HC129_4.out);rintro e w74 ⟨rfl,hb⟩;refine⟨_,rfl,?_⟩;replace HO_8:=zA (Kd.N_below (qN_ HO_8.out) hb);replace HO_18:=zA (Kd.R_below (qR_ HO_18.out) hb);replace HL129_4:=zA (Kd.V_below (qV_ HL129_4.out) hb);replace HR129_4:=zA (Kd.C_below (by repeat(first|(with_reducible exact HR129_4.out)|(with_reducible refine Kd.C_alloc ?_ _)|(with_reducible refine Kd.C_drewN ?_ _)|(with_reducible refine Kd.C_drew ?_)|exact HR129_4.out)) hb);replace HB:=zA (zV qB hb);(try clear hb)))
              go_ret2;exact⟨_,qE,by first|exact Kd.S_nil _ _ _ _ _|exact Kd.N_nil _ _ _ _ _|exact Kd.V_nil _ _ _ _ _|exact Kd.Q_nil _ _ _ _ _|exact Kd.R_nil _ _ _ _ _,qB⟩
             rw[if_neg c63] at H;exact absurd H (by simp)
            rw[if_neg c62] at H;exact absurd H (by simp)
           rw[if_neg c61] at H;have c61b0:=zGq c61;clear c61;simp only[zNq,zOq] at H;obtain⟨rfl,rfl⟩:=H;go_wp2;go_ret2;exact⟨_,qE,by(with_reducible repeat(first|apply Kd.N_alloc|apply Kd.N_drewN|apply Kd.N_drew));exact Kd.N_mono HO_8.out (fun _ hk=>hk.1),qB⟩
def bH.l0:Nat→List (S71)→Int→Int→Option (Int)
  |0,_,_,_=>none
  |k+1,x0,x3,x4=>if x4 < (x0.length:Int)then(if 0≤x4 then(if(wrap64 ((wrap64 (x3+((rd_T71 x0 x4).f2)))+((rd_T71 x0 x4).f3))) > 1000000000000 then(some (-1))else(bH.l0 k x0 (wrap64 ((wrap64 (x3+((rd_T71 x0 x4).f2)))+((rd_T71 x0 x4).f3))) (wrap64 (x4+1))))else(none))else(some x3)
def bH.f (k:Nat) (l0:List (S71)):Option (Int):=bH.l0 k l0 0 0
theorem bH.mono_l: ∀ k,(∀ y0 y1 y2,LeO (bH.l0 k y0 y1 y2) (bH.l0 (k+1) y0 y1 y2))
  |0=>fun _ _ _ r h=>by simp[bH.l0] at h
  |k+1=>by
    have ih0:=bH.mono_l k
    intro y0 y1 y2
    unfold bH.l0
    repeat' (with_reducible first|exact ih0 _ _ _|exact LeO.refl _|exact LeO.none _|refine LeO.ite ?_ ?_|refine LeO.bind ?_ (fun _=>?_))
theorem bH.mono: ∀ a0 k,LeO (bH.f k a0) (bH.f (k+1) a0):=by
  intro a0 k
  have ih0:=bH.mono_l k
  unfold bH.f
  repeat' (with_reducible first|exact ih0 _ _ _|exact LeO.refl _|exact LeO.none _|refine LeO.ite ?_ ?_|refine LeO.bind ?_ (fun _=>?_))
theorem bH.calls (k:Nat) (A0:Option Addr) (c0:Nat) (l0:List (S71)) (r:Int) (w:World) (hr0:Kd.C k71 w A0 l0.length l0) (hc0:l0.length≤c0) (h:bH.f k l0=some r):
  Calls Try.prog 132 #[.slice A0 l0.length c0] w fun e w'=>e= .returned (.int .i64 r)∧Drawn0 w w':=by
 have HR0:=zA hr0
 have HC0:=zA hc0
 clear hr0 hc0
 have H:(bH.l0 k l0 0 0)=some r:=h
 clear h
 have H':=zA H
 clear H
 go_enter Try.func132,Try.ntmps132
 go_wp2
 repeat(go_quiet (fail);try go_wp2)
 go_loopg[3,4] k (fun kq v3 v4 w'=> ∃ (x3_1:Int) (x4_1:Int),v3= .int .i64 x3_1∧v4= .int .i64 x4_1∧Aside0 (bH.l0 kq l0 x3_1 x4_1=some r)∧Aside0 (kq≤k)∧Drawn0 w w')
 case atStart=>exact⟨(0),(0),qF_,qF_,H',⟨Nat.le_refl _⟩,by repeat(first|exact Drawn0.refl _|apply Drawn0.step)⟩
 case round=>
  clear H';try clear c1
  obtain⟨x3_1,x4_1,rfl,rfl,HA,HK1,⟨m1,rfl⟩⟩:=hrel;cases gk with
  |zero=>exact absurd HA.out (by simp[bH.l0])
  |succ k1=>
   have H:=HA.out;clear HA;simp only[bH.l0] at H;by_cases c2:x4_1 < (l0.length:Int)
   ·rw[if_pos c2] at H
    have c2b0:=zFq c2;clear c2;by_cases c3:0≤x4_1
    ·rw[if_pos c3] at H
     have c3b0:=zFq c3;clear c3;by_cases c4:(wrap64 ((wrap64 (x3_1+((rd_T71 l0 x4_1).f2)))+((rd_T71 l0 x4_1).f3))) > 1000000000000
     ·rw[if_pos c4] at H
      have c4b0:decide (1000000000000 < (wrap64 ((wrap64 (x3_1+((rd_T71 l0 x4_1).f2)))+((rd_T71 l0 x4_1).f3))))=true:=zFq c4;clear c4;obtain rfl:=zKq H;have p101:0≤(x4_1:Int):=qO_;have q101:x4_1 < (l0.length:Int):=qO_;obtain⟨ad101,A101_4,c101_4,e101,hx101_0,hx101_1,hx101_2,hx101_3,hx101_4,hl101_4,hi101_4⟩:=at_T71 HR0.out x4_1 p101 q101;cases e101
      have HR101_4:=zA hi101_4;have HC101_4:=zA hl101_4;clear hi101_4 hl101_4;replace p101:=eq_true p101;replace q101:=eq_true q101;have p102:0≤(x4_1:Int):=qO_;have q102:x4_1 < (l0.length:Int):=qO_;obtain⟨ad102,A102_4,c102_4,e102,hx102_0,hx102_1,hx102_2,hx102_3,hx102_4,hl102_4,hi102_4⟩:=at_T71 HR0.out x4_1 p102 q102;obtain rfl:ad101=ad102:=(by injection e102)
      have HR102_4:=zA hi102_4;have HC102_4:=zA hl102_4;clear hi102_4 hl102_4;replace p102:=eq_true p102;replace q102:=eq_true q102;have ea_:=zKq (hx101_4.symm.trans hx102_4);injection ea_ with ea_ en_ ec_
      subst ea_;subst ec_;clear en_;go_wp2;repeat(go_quiet (fail);try go_wp2)
      go_ret;exact⟨by first|rfl|(simp;done)|(simp[*];done),by repeat(first|exact Drawn0.refl _|apply Drawn0.step)⟩
     rw[if_neg c4] at H;have c4b0:decide (1000000000000 < (wrap64 ((wrap64 (x3_1+((rd_T71 l0 x4_1).f2)))+((rd_T71 l0 x4_1).f3))))=false:=zGq c4;clear c4;have H':=zA H;clear H;have p101:0≤(x4_1:Int):=qO_;have q101:x4_1 < (l0.length:Int):=qO_;obtain⟨ad101,A101_4,c101_4,e101,hx101_0,hx101_1,hx101_2,hx101_3,hx101_4,hl101_4,hi101_4⟩:=at_T71 HR0.out x4_1 p101 q101;cases e101
     have HR101_4:=zA hi101_4;have HC101_4:=zA hl101_4;clear hi101_4 hl101_4;replace p101:=eq_true p101;replace q101:=eq_true q101;have p102:0≤(x4_1:Int):=qO_;have q102:x4_1 < (l0.length:Int):=qO_;obtain⟨ad102,A102_4,c102_4,e102,hx102_0,hx102_1,hx102_2,hx102_3,hx102_4,hl102_4,hi102_4⟩:=at_T71 HR0.out x4_1 p102 q102;obtain rfl:ad101=ad102:=(by injection e102)
     have HR102_4:=zA hi102_4;have HC102_4:=zA hl102_4;clear hi102_4 hl102_4;replace p102:=eq_true p102;replace q102:=eq_true q102;have ea_:=zKq (hx101_4.symm.trans hx102_4);injection ea_ with ea_ en_ ec_
     subst ea_;subst ec_;clear en_;go_wp2;repeat(go_quiet (fail);try go_wp2)
     go_roundg k1
     case measure=>have:=HK1.out;omega
     case rel=>exact⟨(wrap64 ((wrap64 (x3_1+((rd_T71 l0 x4_1).f2)))+((rd_T71 l0 x4_1).f3))),(wrap64 (x4_1+1)),qF_,qF_,H',⟨by have:=HK1.out;omega⟩,by repeat(first|exact Drawn0.refl _|apply Drawn0.step)⟩
    rw[if_neg c3] at H;exact absurd H (by simp)
   rw[if_neg c2] at H;have c2b0:=zGq c2;clear c2;obtain rfl:=zKq H;go_wp2;repeat(go_quiet (fail);try go_wp2)
   go_ret;exact⟨by first|rfl|(simp;done)|(simp[*];done),by repeat(first|exact Drawn0.refl _|apply Drawn0.step)⟩
mutual
def aI.j0:Nat→Bool→Int→Int→List (S71)→Option (Int)
  |0,_,_,_,_=>none
  |k+1,x33,x102000,x102001,x102002=>if x33=true then(some 40)else(aI.l0 k 0 x102000 x102001 x102002)
def aI.l0:Nat→Int→Int→Int→List (S71)→Option (Int)
  |0,_,_,_,_=>none
  |k+1,x3,x102000,x102001,x102002=>if x3 < (x102002.length:Int)then(if 0≤x3 then((aE.f k ((rd_T71 x102002 x3).f0) ((rd_T71 x102002 x3).f1) ((rd_T71 x102002 x3).f2) ((rd_T71 x102002 x3).f3) ((rd_T71 x102002 x3).f4)).bind fun t103=> (if t103=0 then(aI.l0 k (wrap64 (x3+1)) x102000 x102001 x102002)else(some 40)))else(none))else((bH.f k x102002).bind fun t104=> (if t104 < 0 then(some 40)else((aY.f k x102002).bind fun t105=> ((aK.f k t105).bind fun t108=> (if t108=true then(some 40)else(some 0))))))
end
def aI.f (k:Nat) (a0_0:Int) (a0_1:Int) (l0_2:List (S71)):Option (Int):=if a0_0 < 1 then(aI.j0 k true a0_0 a0_1 l0_2)else(if a0_0 > 999999 then(aI.j0 k true a0_0 a0_1 l0_2)else(if a0_1 < 0 then(aI.j0 k true a0_0 a0_1 l0_2)else(if a0_1 > 1000000 then(aI.j0 k true a0_0 a0_1 l0_2)else(if(l0_2.length:Int)=0 then(aI.j0 k true a0_0 a0_1 l0_2)else(aI.j0 k (decide ((l0_2.length:Int) > 8)) a0_0 a0_1 l0_2)))))
theorem aI.mono_l: ∀ k,(∀ y0 y1 y2 y3,LeO (aI.j0 k y0 y1 y2 y3) (aI.j0 (k+1) y0 y1 y2 y3))∧(∀ y0 y1 y2 y3,LeO (aI.l0 k y0 y1 y2 y3) (aI.l0 (k+1) y0 y1 y2 y3))
  |0=> ⟨fun _ _ _ _ r h=>by simp[aI.j0] at h,fun _ _ _ _ r h=>by simp[aI.l0] at h⟩
  |k+1=>by
    obtain⟨ih0,ih1⟩:=aI.mono_l k
    refine⟨?_,?_⟩
    · intro y0 y1 y2 y3
      unfold aI.j0
      repeat' (with_reducible first|exact ih0 _ _ _ _|exact ih1 _ _ _ _|exact aE.mono _ _ _ _ _ _|exact aY.mono _ _|exact bH.mono _ _|exact aK.mono _ _|exact LeO.refl _|exact LeO.none _|refine LeO.ite ?_ ?_|refine LeO.bind ?_ (fun _=>?_))
    intro y0 y1 y2 y3
    unfold aI.l0
    repeat' (with_reducible first|exact ih0 _ _ _ _|exact ih1 _ _ _ _|exact aE.mono _ _ _ _ _ _|exact aY.mono _ _|exact bH.mono _ _|exact aK.mono _ _|exact LeO.refl _|exact LeO.none _|refine LeO.ite ?_ ?_|refine LeO.bind ?_ (fun _=>?_))
theorem aI.mono: ∀ a0 a1 a2 k,LeO (aI.f k a0 a1 a2) (aI.f (k+1) a0 a1 a2):=by
  intro a0 a1 a2 k
  obtain⟨ih0,ih1⟩:=aI.mono_l k
  unfold aI.f
  repeat' (with_reducible first|exact ih0 _ _ _ _|exact ih1 _ _ _ _|exact aE.mono _ _ _ _ _ _|exact aY.mono _ _|exact bH.mono _ _|exact aK.mono _ _|exact LeO.refl _|exact LeO.none _|refine LeO.ite ?_ ?_|refine LeO.bind ?_ (fun _=>?_))
theorem aI.calls (k:Nat) (a0_0:Int) (a0_1:Int) (A0_2:Option Addr) (c0_2:Nat) (l0_2:List (S71)) (r:Int) (w:World) (hr0_2:Kd.C k71 w A0_2 l0_2.length l0_2) (hc0_2:l0_2.length≤c0_2) (h:aI.f k a0_0 a0_1 l0_2=some r):
  Calls Try.prog 91 #[.agg #[.int .i64 a0_0,.int .i64 a0_1,.slice A0_2 l0_2.length c0_2]] w fun e w'=>e= .returned (.int .i64 r)∧Below w.heap.size w w':=by
 have hu99:=Try.underlying99
 have hu71:=Try.underlying71
 have HR0_2:=zA hr0_2
 have HC0_2:=zA hc0_2
 clear hr0_2 hc0_2
 have HB:=zA (Below.refl w.heap.size w)
 have H:(if a0_0 < 1 then(aI.j0 k true a0_0 a0_1 l0_2)else(if a0_0 > 999999 then(aI.j0 k true a0_0 a0_1 l0_2)else(if a0_1 < 0 then(aI.j0 k true a0_0 a0_1 l0_2)else(if a0_1 > 1000000 then(aI.j0 k true a0_0 a0_1 l0_2)else(if(l0_2.length:Int)=0 then(aI.j0 k true a0_0 a0_1 l0_2)else(aI.j0 k (decide ((l0_2.length:Int) > 8)) a0_0 a0_1 l0_2))))))=some r:=h
 clear h
 have HC2:=zA H
 clear H
 go_enter Try.func91,Try.ntmps91
 go_upto_region 1 with(first|((with_reducible refine gate_dst (N:=1) rfl ?_);(try(refine gate_guard (by rfl) ?_;dsimp only));refine box_event qr (N:=1) qr (cs:= #[.int .i64 a0_0,.int .i64 a0_1,.slice A0_2 l0_2.length c0_2]) (t:=99) qg ?_;intro gb101 hg w3 hbox hb;have BK101:=zA (hbox);have GW101:=zA ((qS:w.heap.size≤gb101));have GE101:=zA ((qS:w.heap.size≤gb101));replace HB:=zA (zV qB hb);clear hb hbox hg))
 (try simp only[Act.put,zH,zI,zJ])
 go_cut[33] (fun v33 wc=> ∃ (kq:Nat) (x33_1:Bool),v33= .bool x33_1∧Aside0 (aI.j0 kq x33_1 a0_0 a0_1 l0_2=some r)∧Aside0 (kq≤k)∧Aside0 (wc.heap[gb101]? =some (.cells #[.int .i64 a0_0,.int .i64 a0_1,(.slice A0_2 l0_2.length c0_2)] 99 (0,0)))∧Aside0 (Below w.heap.size w wc))
 case first=>
  have H:=HC2.out;clear HC2;by_cases c4:a0_0 < 1
  ·rw[if_pos c4] at H
   have c4b0:=zFq c4;clear c4;(first|rw[c4b0] |(simp only[i64_w,i32_w];rw[c4b0])|skip)
   have H':=zA H;clear H;obtain⟨_,_,_,_,_,_⟩:=qc3f BK101.out;go_wp2;go_meet
   case rel=>exact⟨_,(true),qF_,H',⟨by first|omega|exact Nat.le_refl _⟩,⟨by exact BK101.out⟩,⟨qB⟩⟩
  rw[if_neg c4] at H;have c4b0:=zGq c4;clear c4;(first|rw[c4b0] |(simp only[i64_w,i32_w];rw[c4b0])|skip)
  by_cases c6:a0_0 > 999999
  ·rw[if_pos c6] at H
   have c6b0:decide (999999 < a0_0)=true:=zFq c6;clear c6;have H':=zA H;clear H;obtain⟨_,_,_,_,_,_⟩:=qc3f BK101.out;go_wp2;go_meet
   case rel=>exact⟨_,(true),qF_,H',⟨by first|omega|exact Nat.le_refl _⟩,⟨by exact BK101.out⟩,⟨qB⟩⟩
  rw[if_neg c6] at H;have c6b0:decide (999999 < a0_0)=false:=zGq c6;clear c6;by_cases c8:a0_1 < 0
  ·rw[if_pos c8] at H
   have c8b0:=zFq c8;clear c8;have H':=zA H;clear H;obtain⟨_,_,_,_,_,_⟩:=qc3f BK101.out;go_wp2;go_meet
   case rel=>exact⟨_,(true),qF_,H',⟨by first|omega|exact Nat.le_refl _⟩,⟨by exact BK101.out⟩,⟨qB⟩⟩
  rw[if_neg c8] at H;have c8b0:=zGq c8;clear c8;by_cases c10:a0_1 > 1000000
  ·rw[if_pos c10] at H
   have c10b0:decide (1000000 < a0_1)=true:=zFq c10;clear c10;have H':=zA H;clear H;obtain⟨_,_,_,_,_,_⟩:=qc3f BK101.out;go_wp2;go_meet
   case rel=>exact⟨_,(true),qF_,H',⟨by first|omega|exact Nat.le_refl _⟩,⟨by exact BK101.out⟩,⟨qB⟩⟩
  rw[if_neg c10] at H;have c10b0:decide (1000000 < a0_1)=false:=zGq c10;clear c10;by_cases c12:(l0_2.length:Int)=0
  ·rw[if_pos c12] at H
   have c12b0:((l0_2.length:Int)==0)=true:=beq_iff_eq.mpr c12;have c12b1:((l0_2.length:Int) != 0)=false:=bne_eq_false_iff_eq.mpr c12;clear c12;have H':=zA H;clear H;obtain⟨_,_,_,_,_,_⟩:=qc3f BK101.out;go_wp2;go_meet
   case rel=>exact⟨_,(true),qF_,H',⟨by first|omega|exact Nat.le_refl _⟩,⟨by exact BK101.out⟩,⟨qB⟩⟩
  rw[if_neg c12] at H;have c12b0:((l0_2.length:Int)==0)=false:=beq_eq_false_iff_ne.mpr c12;have c12b1:((l0_2.length:Int) != 0)=true:=bne_iff_ne.mpr c12;have c12b2: ¬ (l0_2=[]):=fun h_=>c12 (by rw[h_];rfl)
  have H':=zA H;clear H;obtain⟨_,_,_,_,_,_⟩:=qc3f BK101.out;go_wp2;go_meet
  case rel=>exact⟨_,(decide ((l0_2.length:Int) > 8)),qF_,H',⟨by first|omega|exact Nat.le_refl _⟩,⟨by exact BK101.out⟩,⟨qB⟩⟩
 case rest=>
  clear HC2;try clear c1
  try clear p2
  try clear c4
  try clear c4b0
  try clear c6
  try clear c6b0
  try clear c8
  try clear c8b0
  try clear c9
  try clear c10
  try clear c10b0
  try clear c12
  try clear c12b0
  try clear c12b1
  try clear c12b2
  obtain⟨kq,x33_1,rfl,HA,HJ1,BK101,HB⟩:=hcut;cases kq with
  |zero=>exact absurd HA.out (by simp[aI.j0])
  |succ kj1=>
   have H:=HA.out;clear HA;simp only[aI.j0] at H;by_cases c15:x33_1=true
   ·subst c15
    have H1:(some 40)=some r:=by first|(rw[if_pos rfl] at H;exact H)|rfl
    clear H;have H:=H1;clear H1;obtain rfl:=zKq H;go_wp2;go_ret;exact⟨qE,qB⟩
   replace c15:=Bool.eq_false_iff.mpr c15;subst c15;have H1:(aI.l0 kj1 0 a0_0 a0_1 l0_2)=some r:=by first|(rw[if_neg (show ¬ (false=true) by decide)] at H;exact H)|rfl
   clear H;have H:=H1;clear H1;have H':=zA H;clear H;go_wp2;go_loopg[3] kj1 (fun kq v3 w'=> ∃ (x3_2:Int),v3= .int .i64 x3_2∧Aside0 (aI.l0 kq x3_2 a0_0 a0_1 l0_2=some r)∧Aside0 (kq≤kj1)∧Aside0 (w'.heap[gb101]? =some (.cells #[.int .i64 a0_0,.int .i64 a0_1,(.slice A0_2 l0_2.length c0_2)] 99 (0,0)))∧Aside0 (Below w.heap.size w w'))
   case atStart=>exact⟨(0),qF_,H',⟨Nat.le_refl _⟩,⟨by exact BK101.out⟩,⟨qB⟩⟩
   case round=>
    clear H';try clear c1
    try clear p2
    try clear c4
    try clear c4b0
    try clear c6
    try clear c6b0
    try clear c8
    try clear c8b0
    try clear c9
    try clear c10
    try clear c10b0
    try clear c12
    try clear c12b0
    try clear c12b1
    try clear c12b2
    try clear c15
    try clear p2
    obtain⟨x3_2,rfl,HA,HK2,BK101,HB⟩:=hrel;cases gk with
    |zero=>exact absurd HA.out (by simp[aI.l0])
    |succ k2=>
     have H:=HA.out;clear HA;simp only[aI.l0] at H;by_cases c16:x3_2 < (l0_2.length:Int)
     ·rw[if_pos c16] at H
      have c16b0:=zFq c16;clear c16;by_cases c17:0≤x3_2
      ·rw[if_pos c17] at H
       have c17b0:=zFq c17;clear c17;obtain⟨t103,A18,H⟩:=qD_ H;(try dsimp only at H);by_cases c19:t103=0
       ·rw[if_pos c19] at H
        have c19b0:(t103==0)=true:=beq_iff_eq.mpr c19;have c19b1:(t103 != 0)=false:=bne_eq_false_iff_eq.mpr c19;clear c19;have H':=zA H;clear H;obtain⟨_,_,_,_,_,_⟩:=qc3f BK101.out;have p102:0≤(x3_2:Int):=qO_;have q102:x3_2 < (l0_2.length:Int):=qO_;obtain⟨ad102,A102_4,c102_4,e102,hx102_0,hx102_1,hx102_2,hx102_3,hx102_4,hl102_4,hi102_4⟩:=at_T71 HR0_2.out x3_2 p102 q102;cases e102
        replace hx102_0:=qU_ hx102_0;replace hx102_1:=qU_ hx102_1;replace hx102_2:=qU_ hx102_2;replace hx102_3:=qU_ hx102_3;replace hx102_4:=qU_ hx102_4;have HR102_4:=zA hi102_4;have HC102_4:=zA hl102_4;clear hi102_4 hl102_4;replace p102:=eq_true p102;replace q102:=eq_true q102;go_wp2_with (first|((with_reducible refine zJq (f:=70) rfl ?_);refine goesL_ (some 46) rfl rfl Try.func70 (by kernel_rfl) rfl #[.agg #[.int .i64 ((rd_T71 l0_2 x3_2).f0),.int .i64 ((rd_T71 l0_2 x3_2).f1),.int .i64 ((rd_T71 l0_2 x3_2).f2),.int .i64 ((rd_T71 l0_2 x3_2).f3),.slice A102_4 ((rd_T71 l0_2 x3_2).f4).length c102_4]] rfl qG ?_;(with_reducible refine(aE.calls k2 ((rd_T71 l0_2 x3_2).f0) ((rd_T71 l0_2 x3_2).f1) ((rd_T71 l0_2 x3_2).f2) ((rd_T71 l0_2 x3_2).f3) _ _ ((rd_T71 l0_2 x3_2).f4) t103 _ ?side1 ?side2 A18.out).mono ?_);(case side1=>exact qC (Kd.C_below HR102_4.out HB.out));(case side2=>exact HC102_4.out);rintro e w21 ⟨rfl,hb⟩;refine⟨_,rfl,?_⟩;replace BK101:=zA (qX BK101.out hb);replace HB:=zA (zV qB hb);(try clear hb)));go_roundg k2
        case measure=>have:=HJ1.out;have:=HK2.out;omega
        case rel=>exact⟨(wrap64 (x3_2+1)),qF_,H',⟨by have:=HJ1.out;have:=HK2.out;omega⟩,⟨by exact BK101.out⟩,⟨qB⟩⟩
       rw[if_neg c19] at H;have c19b0:(t103==0)=false:=beq_eq_false_iff_ne.mpr c19;have c19b1:(t103 != 0)=true:=bne_iff_ne.mpr c19;obtain rfl:=zKq H;obtain⟨_,_,_,_,_,_⟩:=qc3f BK101.out;have p102:0≤(x3_2:Int):=qO_;have q102:x3_2 < (l0_2.length:Int):=qO_;obtain⟨ad102,A102_4,c102_4,e102,hx102_0,hx102_1,hx102_2,hx102_3,hx102_4,hl102_4,hi102_4⟩:=at_T71 HR0_2.out x3_2 p102 q102;cases e102
       replace hx102_0:=qU_ hx102_0;replace hx102_1:=qU_ hx102_1;replace hx102_2:=qU_ hx102_2;replace hx102_3:=qU_ hx102_3;replace hx102_4:=qU_ hx102_4;have HR102_4:=zA hi102_4;have HC102_4:=zA hl102_4;clear hi102_4 hl102_4;replace p102:=eq_true p102;replace q102:=eq_true q102;go_wp2_with (first|((with_reducible refine zJq (f:=70) rfl ?_);refine goesL_ (some 46) rfl rfl Try.func70 (by kernel_rfl) rfl #[.agg #[.int .i64 ((rd_T71 l0_2 x3_2).f0),.int .i64 ((rd_T71 l0_2 x3_2).f1),.int .i64 ((rd_T71 l0_2 x3_2).f2),.int .i64 ((rd_T71 l0_2 x3_2).f3),.slice A102_4 ((rd_T71 l0_2 x3_2).f4).length c102_4]] rfl qG ?_;(with_reducible refine(aE.calls k2 ((rd_T71 l0_2 x3_2).f0) ((rd_T71 l0_2 x3_2).f1) ((rd_T71 l0_2 x3_2).f2) ((rd_T71 l0_2 x3_2).f3) _ _ ((rd_T71 l0_2 x3_2).f4) t103 _ ?side1 ?side2 A18.out).mono ?_);(case side1=>exact qC (Kd.C_below HR102_4.out HB.out));(case side2=>exact HC102_4.out);rintro e w23 ⟨rfl,hb⟩;refine⟨_,rfl,?_⟩;replace BK101:=zA (qX BK101.out hb);replace HB:=zA (zV qB hb);(try clear hb)));go_ret;exact⟨qE,qB⟩
      rw[if_neg c17] at H;exact absurd H (by simp)
     rw[if_neg c16] at H;have c16b0:=zGq c16;clear c16;obtain⟨t104,A24,H⟩:=qD_ H;(try dsimp only at H);by_cases c25:t104 < 0
     ·rw[if_pos c25] at H
      have c25b0:=zFq c25;clear c25;obtain rfl:=zKq H;obtain⟨_,_,_,_,_,_⟩:=qc3f BK101.out;go_wp2_with (first|((with_reducible refine zJq (f:=132) rfl ?_);refine goesL_ (some 50) rfl rfl Try.func132 (by kernel_rfl) rfl #[.slice A0_2 l0_2.length c0_2] rfl qG ?_;(with_reducible refine(bH.calls k2 _ _ l0_2 t104 _ ?side1 ?side2 A24.out).mono ?_);(case side1=>exact qC (Kd.C_below HR0_2.out HB.out));(case side2=>exact HC0_2.out);rintro e w' ⟨rfl,⟨nd,rfl⟩⟩;refine⟨_,rfl,?_⟩));go_ret;exact⟨qE,qB⟩
     rw[if_neg c25] at H;have c25b0:=zGq c25;clear c25;obtain⟨t105,A27,H⟩:=qD_ H;(try dsimp only at H);obtain⟨t108,A28,H⟩:=qD_ H;(try dsimp only at H);by_cases c29:t108=true
     ·subst c29
      have H1:(some 40)=some r:=by first|(rw[if_pos rfl] at H;exact H)|rfl
      clear H;have H:=H1;clear H1;obtain rfl:=zKq H;obtain⟨_,_,_,_,_,_⟩:=qc3f BK101.out;go_wp2_with (first|((with_reducible refine zJq (f:=132) rfl ?_);refine goesL_ (some 50) rfl rfl Try.func132 (by kernel_rfl) rfl #[.slice A0_2 l0_2.length c0_2] rfl qG ?_;(with_reducible refine(bH.calls k2 _ _ l0_2 t104 _ ?side1 ?side2 A24.out).mono ?_);(case side1=>exact qC (Kd.C_below HR0_2.out HB.out));(case side2=>exact HC0_2.out);rintro e w' ⟨rfl,⟨nd,rfl⟩⟩;refine⟨_,rfl,?_⟩)|(go_at_call 129;(with_reducible refine(aY.calls k2 _ _ l0_2 t105 _ ?side1 ?side2 A27.out).mono ?_);(case side1=>exact qC (Kd.C_below HR0_2.out qB));(case side2=>exact HC0_2.out);rintro e w31 ⟨v106,rfl,ho0,hb⟩;have HO107:=zA (Kd.R_lower ho0 (zW qB));replace BK101:=zA (qX BK101.out hb);replace HB:=zA (zV qB hb);(try clear hb);(try clear ho0);obtain⟨Ao32,co32,eo32⟩:=Kd.R_slice HO107.out;subst eo32)|(go_at_call 128;(with_reducible refine(aK.calls k2 _ _ t105 true _ ?side1 ?side2 A28.out).mono ?_);(case side1=>repeat(first|exact(Kd.R_reads' HO107.out).2.2|(with_reducible refine Kd.C_alloc ?_ _)|(with_reducible refine Kd.C_drewN ?_ _)|(with_reducible refine Kd.C_drew ?_)));(case side2=>exact(Kd.R_reads' HO107.out).2.1);rintro e w' ⟨rfl,⟨nd,rfl⟩⟩));go_ret;exact⟨qE,qB⟩
     replace c29:=Bool.eq_false_iff.mpr c29;subst c29;have H1:(some 0)=some r:=by first|(rw[if_neg (show ¬ (false=true) by decide)] at H;exact H)|rfl
     clear H;have H:=H1;clear H1;obtain rfl:=zKq H;obtain⟨_,_,_,_,_,_⟩:=qc3f BK101.out;go_wp2_with (first|((with_reducible refine zJq (f:=132) rfl ?_);refine goesL_ (some 50) rfl rfl Try.func132 (by kernel_rfl) rfl #[.slice A0_2 l0_2.length c0_2] rfl qG ?_;(with_reducible refine(bH.calls k2 _ _ l0_2 t104 _ ?side1 ?side2 A24.out).mono ?_);(case side1=>exact qC (Kd.C_below HR0_2.out HB.out));(case side2=>exact HC0_2.out);rintro e w' ⟨rfl,⟨nd,rfl⟩⟩;refine⟨_,rfl,?_⟩)|(go_at_call 129;(with_reducible refine(aY.calls k2 _ _ l0_2 t105 _ ?side1 ?side2 A27.out).mono ?_);(case side1=>exact qC (Kd.C_below HR0_2.out qB));(case side2=>exact HC0_2.out);rintro e w34 ⟨v106,rfl,ho0,hb⟩;have HO107:=zA (Kd.R_lower ho0 (zW qB));replace BK101:=zA (qX BK101.out hb);replace HB:=zA (zV qB hb);(try clear hb);(try clear ho0);obtain⟨Ao35,co35,eo35⟩:=Kd.R_slice HO107.out;subst eo35)|(go_at_call 128;(with_reducible refine(aK.calls k2 _ _ t105 false _ ?side1 ?side2 A28.out).mono ?_);(case side1=>repeat(first|exact(Kd.R_reads' HO107.out).2.2|(with_reducible refine Kd.C_alloc ?_ _)|(with_reducible refine Kd.C_drewN ?_ _)|(with_reducible refine Kd.C_drew ?_)));(case side2=>exact(Kd.R_reads' HO107.out).2.1);rintro e w' ⟨rfl,⟨nd,rfl⟩⟩));go_ret;exact⟨qE,qB⟩
def bF.j0:Nat→Int→Int→List (S71)→Int→Int→Bool→Option (Int × Int × (List (S71)) × Int)
  |0,_,_,_,_,_,_=>none
  |k+1,x0,x1,x2,x3,x4,x28=>if x28=true then(some (0,0,([] :List (S71)),2))else((aA.f k x2 x3 x4).bind fun bt102=> (if bt102.2=0 then((aY.f k bt102.1).bind fun t106=> ((aK.f k t106).bind fun t109=> (if t109=true then(some (0,0,([] :List (S71)),32))else((aI.f k x0 x1 bt102.1).bind fun t111=> (if t111=0 then(some (x0,x1,bt102.1,0))else(some (0,0,([] :List (S71)),8)))))))else(some (0,0,([] :List (S71)),bt102.2))))
def bF.f (k:Nat) (a0:Int) (a1:Int) (l2:List (S71)) (a3:Int) (a4:Int):Option (Int × Int × (List (S71)) × Int):=if a0 < 1 then(bF.j0 k a0 a1 l2 a3 a4 true)else(if a0 > 999999 then(bF.j0 k a0 a1 l2 a3 a4 true)else(if a1 < 0 then(bF.j0 k a0 a1 l2 a3 a4 true)else(bF.j0 k a0 a1 l2 a3 a4 (decide (a1 > 1000000)))))
theorem bF.mono_l: ∀ k,(∀ y0 y1 y2 y3 y4 y5,LeO (bF.j0 k y0 y1 y2 y3 y4 y5) (bF.j0 (k+1) y0 y1 y2 y3 y4 y5))
  |0=>fun _ _ _ _ _ _ r h=>by simp[bF.j0] at h
  |k+1=>by
    have ih0:=bF.mono_l k
    intro y0 y1 y2 y3 y4 y5
    unfold bF.j0
    repeat' (with_reducible first|exact ih0 _ _ _ _ _ _|exact aA.mono _ _ _ _|exact aI.mono _ _ _ _|exact aY.mono _ _|exact aK.mono _ _|exact LeO.refl _|exact LeO.none _|refine LeO.ite ?_ ?_|refine LeO.bind ?_ (fun _=>?_))
theorem bF.mono: ∀ a0 a1 a2 a3 a4 k,LeO (bF.f k a0 a1 a2 a3 a4) (bF.f (k+1) a0 a1 a2 a3 a4):=by
  intro a0 a1 a2 a3 a4 k
  have ih0:=bF.mono_l k
  unfold bF.f
  repeat' (with_reducible first|exact ih0 _ _ _ _ _ _|exact aA.mono _ _ _ _|exact aI.mono _ _ _ _|exact aY.mono _ _|exact aK.mono _ _|exact LeO.refl _|exact LeO.none _|refine LeO.ite ?_ ?_|refine LeO.bind ?_ (fun _=>?_))
theorem bF.calls (k:Nat) (a0:Int) (a1:Int) (P2_:Nat→Prop) (A2:Option Addr) (c2:Nat) (l2:List (S71)) (a3:Int) (a4:Int) (r1:Int) (r2:Int) (r3:List (S71)) (r4:Int) (w:World) (hs2:Kd.V k71 71 w w.heap.size (fun k_=>P2_ k_) (.slice A2 l2.length c2) l2) (h:bF.f k a0 a1 l2 a3 a4=some (r1,r2,r3,r4)):
  Calls Try.prog 84 #[.int .i64 a0,.int .i64 a1,.slice A2 l2.length c2,.int .i64 a3,.int .i64 a4] w fun e w'=> ∃ v2_:Value,e= .returned (.tuple #[.agg #[.int .i64 r1,.int .i64 r2,v2_],.int .i64 r4])∧Kd.N k71 71 w' w.heap.size (fun k_=> (P2_ k_∨w.heap.size≤k_)) v2_ r3∧Below w.heap.size w w':=by
 have hu99:=Try.underlying99
 have HO2:=zA (show Kd.V k71 71 w w.heap.size (fun k_=> (P2_ k_∨w.heap.size≤k_)) (.slice A2 l2.length c2) l2 from Kd.V_mono hs2 (fun k_ hk=> .inl hk))
 have HB:=zA (Below.refl w.heap.size w)
 have H:(if a0 < 1 then(bF.j0 k a0 a1 l2 a3 a4 true)else(if a0 > 999999 then(bF.j0 k a0 a1 l2 a3 a4 true)else(if a1 < 0 then(bF.j0 k a0 a1 l2 a3 a4 true)else(bF.j0 k a0 a1 l2 a3 a4 (decide (a1 > 1000000))))))=some (r1,r2,r3,r4):=h
 clear h
 have HC6:=zA H
 clear H
 go_enter Try.func84,Try.ntmps84
 go_upto_region 1 with(first|((with_reducible refine gate_dst (N:=10) rfl ?_);refine box_event qr (N:=10) qr (cs:= #[.int .i64 0,.int .i64 0,.slice none 0 0]) (t:=99) qg ?_;intro gb101 hg w7 hbox hb;replace HO2:=zA (Kd.V_below (Kd.V_elderB (qV_ HO2.out) gb101 (Nat.le_of_eq hg.symm)) hb);have BK101:=zA (hbox);have GW101:=zA ((qS:w.heap.size≤gb101));have GE101:=zA ((qS:w.heap.size≤gb101));replace HB:=zA (zV qB hb);clear hb hbox hg))
 (try simp only[Act.put,zH,zI,zJ])
 go_cut[28] (fun v28 wc=> ∃ (kq:Nat) (x28_5:Bool),v28= .bool x28_5∧Aside0 (bF.j0 kq a0 a1 l2 a3 a4 x28_5=some (r1,r2,r3,r4))∧Aside0 (kq≤k)∧Aside0 (Kd.V k71 71 wc w.heap.size (fun k_=> (P2_ k_∨w.heap.size≤k_)∧k_≠gb101) (.slice A2 l2.length c2) l2)∧Aside0 (wc.heap[gb101]? =some (.cells #[.int .i64 0,.int .i64 0,(.slice none 0 0)] 99 (0,0)))∧Aside0 (Below w.heap.size w wc))
 case first=>
  have H:=HC6.out;clear HC6;by_cases c8:a0 < 1
  ·rw[if_pos c8] at H
   have c8b0:=zFq c8;clear c8;(first|rw[c8b0] |(simp only[i64_w,i32_w];rw[c8b0])|skip)
   have H':=zA H;clear H;go_wp2;go_meet
   case rel=>exact⟨_,(true),qF_,H',⟨by first|omega|exact Nat.le_refl _⟩,⟨qV_ HO2.out⟩,⟨by exact BK101.out⟩,⟨qB⟩⟩
  rw[if_neg c8] at H;have c8b0:=zGq c8;clear c8;(first|rw[c8b0] |(simp only[i64_w,i32_w];rw[c8b0])|skip)
  by_cases c9:a0 > 999999
  ·rw[if_pos c9] at H
   have c9b0:decide (999999 < a0)=true:=zFq c9;clear c9;have H':=zA H;clear H;go_wp2;go_meet
   case rel=>exact⟨_,(true),qF_,H',⟨by first|omega|exact Nat.le_refl _⟩,⟨qV_ HO2.out⟩,⟨by exact BK101.out⟩,⟨qB⟩⟩
  rw[if_neg c9] at H;have c9b0:decide (999999 < a0)=false:=zGq c9;clear c9;by_cases c10:a1 < 0
  ·rw[if_pos c10] at H
   have c10b0:=zFq c10;clear c10;have H':=zA H;clear H;go_wp2;go_meet
   case rel=>exact⟨_,(true),qF_,H',⟨by first|omega|exact Nat.le_refl _⟩,⟨qV_ HO2.out⟩,⟨by exact BK101.out⟩,⟨qB⟩⟩
  rw[if_neg c10] at H;have c10b0:=zGq c10;clear c10;have H':=zA H;clear H;go_wp2;go_meet
  case rel=>exact⟨_,(decide (a1 > 1000000)),qF_,H',⟨by first|omega|exact Nat.le_refl _⟩,⟨qV_ HO2.out⟩,⟨by exact BK101.out⟩,⟨qB⟩⟩
 case rest=>
  clear HC6;try clear c1
  try clear c2
  try clear p2
  try clear c8
  try clear c8b0
  try clear c9
  try clear c9b0
  try clear c10
  try clear c10b0
  obtain⟨kq,x28_5,rfl,HA,HJ5,HO_2,BK101,HB⟩:=hcut;cases kq with
  |zero=>exact absurd HA.out (by simp[bF.j0])
  |succ kj5=>
   have H:=HA.out;clear HA;simp only[bF.j0] at H;by_cases c11:x28_5=true
   ·subst c11
    have H1:(some (0,0,([] :List (S71)),2))=some (r1,r2,r3,r4):=by first|(rw[if_pos rfl] at H;exact H)|rfl
    clear H;have H:=H1;clear H1;simp only[zNq,zOq] at H;obtain⟨rfl,rfl,rfl,rfl⟩:=H;obtain⟨_,_,_,_,_,_⟩:=qc3f BK101.out;go_wp2;refine bodyPost_ret (results_ct rfl _ _ gb101 99 #[.int .i64 0,.int .i64 0,.slice none 0 0] (0,0) _ rfl (qV BK101.out) Try.underlying99 rfl (by kernel_rfl)) rfl ?_;exact⟨_,qE,by first|exact Kd.S_nil _ _ _ _ _|exact Kd.N_nil _ _ _ _ _|exact Kd.V_nil _ _ _ _ _|exact Kd.Q_nil _ _ _ _ _|exact Kd.R_nil _ _ _ _ _,qB⟩
   replace c11:=Bool.eq_false_iff.mpr c11;subst c11;have H1:((aA.f kj5 l2 a3 a4).bind fun bt102=> (if bt102.2=0 then((aY.f kj5 bt102.1).bind fun t106=> ((aK.f kj5 t106).bind fun t109=> (if t109=true then(some (0,0,([] :List (S71)),32))else((aI.f kj5 a0 a1 bt102.1).bind fun t111=> (if t111=0 then(some (a0,a1,bt102.1,0))else(some (0,0,([] :List (S71)),8)))))))else(some (0,0,([] :List (S71)),bt102.2))))=some (r1,r2,r3,r4):=by first|(rw[if_neg (show ¬ (false=true) by decide)] at H;exact H)|rfl
   clear H;have H:=H1;clear H1;obtain⟨⟨t102,t105⟩,A13,H⟩:=qD_ H;(try dsimp only at H);by_cases c14:t105=0
   ·rw[if_pos c14] at H
    have c14b0:(t105==0)=true:=beq_iff_eq.mpr c14;have c14b1:(t105 != 0)=false:=bne_eq_false_iff_eq.mpr c14;clear c14;obtain⟨t106,A15,H⟩:=qD_ H;(try dsimp only at H);obtain⟨t109,A16,H⟩:=qD_ H;(try dsimp only at H);by_cases c17:t109=true
    ·subst c17
     have H1:(some (0,0,([] :List (S71)),32))=some (r1,r2,r3,r4):=by first|(rw[if_pos rfl] at H;exact H)|rfl
     clear H;have H:=H1;clear H1;simp only[zNq,zOq] at H;obtain⟨rfl,rfl,rfl,rfl⟩:=H;go_wp2_with (first|((with_reducible refine zJq (f:=63) rfl ?_);refine goesL_ (some 34) rfl rfl Try.func63 (by kernel_rfl) rfl #[.slice A2 l2.length c2,.int .i64 a3,.int .i64 a4] rfl qG ?_;(with_reducible refine(aA.calls kj5 (fun k_=> ((P2_ k_∨w.heap.size≤k_)∧k_≠gb101)) _ _ l2 a3 a4 t102 t105 _ ?side1 A13.out).mono ?_);(case side1=>exact HO_2.out);rintro e w18 ⟨v103,rfl,ho0,hb⟩;refine⟨_,rfl,?_⟩;replace HO_2:=zA (Kd.V_elder' (qV_ HO_2.out) (Kd.N_base ho0) hb);have HO104:=zA (Kd.N_lower (Kd.N_mono (ok':=fun k_=> (P2_ k_∨w.heap.size≤k_)∧k_≠gb101) ho0 (fun k_ hk_=> ⟨Or.elim hk_ (fun hs_=>hs_.1) (fun hn_=> (.inr (Nat.le_trans (zW qB) hn_))),Or.elim hk_ (fun hs_=>hs_.2) (fun hn_=> (Kd.freshB (g:=gb101) (o:= .cells #[.int .i64 0,.int .i64 0,.slice none 0 0] 99 (0,0)) (qW BK101.out) k_ hn_))⟩)) (zW qB));replace BK101:=zA (qX BK101.out hb);replace HB:=zA (zV qB hb);(try clear hb);(try clear ho0);obtain⟨Ao19,co19,eo19⟩:=Kd.N_slice HO104.out;subst eo19)|((with_reducible refine zJq (f:=129) rfl ?_);refine goesL_ (some 42) rfl rfl Try.func129 (by kernel_rfl) rfl #[.slice Ao19 t102.length co19] rfl qG ?_;(with_reducible refine(aY.calls kj5 _ _ t102 t106 _ ?side1 ?side2 A15.out).mono ?_);(case side1=>repeat(first|exact(Kd.N_reads' HO104.out).2.2|(with_reducible refine Kd.C_alloc ?_ _)|(with_reducible refine Kd.C_drewN ?_ _)|(with_reducible refine Kd.C_drew ?_)));(case side2=>exact(Kd.N_reads' HO104.out).2.1);rintro e w20 ⟨v107,rfl,ho0,hb⟩;refine⟨_,rfl,?_⟩;replace HO_2:=zA (Kd.V_elder' (qV_ HO_2.out) (Kd.R_base ho0) hb);replace HO104:=zA (Kd.N_elder' (qN_ HO104.out) (Kd.R_base ho0) hb);have HO108:=zA (Kd.R_lower (Kd.R_newM (M:=fun k_=> (w.heap.size≤k_)) ho0 (zW qB) (fun k_ h_=>h_)) (zW qB));replace BK101:=zA (qX BK101.out hb);replace HB:=zA (zV qB hb);(try clear hb);(try clear ho0);obtain⟨Ao21,co21,eo21⟩:=Kd.R_slice HO108.out;subst eo21)|((with_reducible refine zJq (f:=128) rfl ?_);refine goesL_ (some 43) rfl rfl Try.func128 (by kernel_rfl) rfl #[.slice Ao21 t106.length co21] rfl qG ?_;(with_reducible refine(aK.calls kj5 _ _ t106 true _ ?side1 ?side2 A16.out).mono ?_);(case side1=>repeat(first|exact(Kd.R_reads' HO108.out).2.2|(with_reducible refine Kd.C_alloc ?_ _)|(with_reducible refine Kd.C_drewN ?_ _)|(with_reducible refine Kd.C_drew ?_)));(case side2=>exact(Kd.R_reads' HO108.out).2.1);rintro e w' ⟨rfl,⟨nd,rfl⟩⟩;refine⟨_,rfl,?_⟩;(try(rw[drewN_self w20];generalize hq_:World.drewN w20 _=w20;have n0_:Aside0 (Kd.N k71 71 w20 w.heap.size (fun k_=> ((((P2_ k_∨w.heap.size≤k_))∧k_≠gb101)∧some k_≠(.slice Ao21 t106.length co21:Value).ownBlock)) (.slice Ao19 t102.length co19) t102):=⟨by rw[←hq_];exact(qN_ HO104.out)⟩;have n1_:Aside0 (Kd.R Kd.string 9 w20 w.heap.size (fun k_=> (((w.heap.size≤k_))∧True)) (.slice Ao21 t106.length co21) t106):=⟨by rw[←hq_];exact(qR_ HO108.out)⟩;have n2_:Aside0 (Kd.V k71 71 w20 w.heap.size (fun k_=> (((((P2_ k_∨w.heap.size≤k_))∧k_≠gb101)∧some k_≠(.slice Ao19 t102.length co19:Value).ownBlock)∧some k_≠(.slice Ao21 t106.length co21:Value).ownBlock)) (.slice A2 l2.length c2) l2):=⟨by rw[←hq_];exact(qV_ HO_2.out)⟩;have n3_:Aside0 (w20.heap[gb101]? =some (.cells #[.int .i64 0,.int .i64 0,.slice none 0 0] 99 (0,0))):=⟨by rw[←hq_];exact(qW BK101.out)⟩;have n4_:Aside0 (Below w.heap.size w w20):=⟨by rw[←hq_];exact qB⟩;clear HO104 HO108 HO_2 BK101 HB hq_;have HO104:=n0_;have HO108:=n1_;have HO_2:=n2_;have BK101:=n3_;have HB:=n4_;clear n0_ n1_ n2_ n3_ n4_));obtain⟨_,_,_,_,_,_⟩:=qc3f BK101.out))
     refine bodyPost_ret (results_ct rfl _ _ gb101 99 #[.int .i64 0,.int .i64 0,.slice none 0 0] (0,0) _ rfl (qV BK101.out) Try.underlying99 rfl (by kernel_rfl)) rfl ?_;exact⟨_,qE,by first|exact Kd.S_nil _ _ _ _ _|exact Kd.N_nil _ _ _ _ _|exact Kd.V_nil _ _ _ _ _|exact Kd.Q_nil _ _ _ _ _|exact Kd.R_nil _ _ _ _ _,qB⟩
    replace c17:=Bool.eq_false_iff.mpr c17;subst c17;have H1:((aI.f kj5 a0 a1 t102).bind fun t111=> (if t111=0 then(some (a0,a1,t102,0))else(some (0,0,([] :List (S71)),8))))=some (r1,r2,r3,r4):=by first|(rw[if_neg (show ¬ (false=true) by decide)] at H;exact H)|rfl
    clear H;have H:=H1;clear H1;obtain⟨t111,A23,H⟩:=qD_ H;(try dsimp only at H);by_cases c24:t111=0
    ·rw[if_pos c24] at H
     have c24b0:(t111==0)=true:=beq_iff_eq.mpr c24;have c24b1:(t111 != 0)=false:=bne_eq_false_iff_eq.mpr c24;clear c24;simp only[zNq,zOq] at H;obtain⟨rfl,rfl,rfl,rfl⟩:=H;go_wp2_with (first|((with_reducible refine zJq (f:=63) rfl ?_);refine goesL_ (some 34) rfl rfl Try.func63 (by kernel_rfl) rfl #[.slice A2 l2.length c2,.int .i64 a3,.int .i64 a4] rfl qG ?_;(with_reducible refine(aA.calls kj5 (fun k_=> ((P2_ k_∨w.heap.size≤k_)∧k_≠gb101)) _ _ l2 a3 a4 t102 t105 _ ?side1 A13.out).mono ?_);(case side1=>exact HO_2.out);rintro e w25 ⟨v103,rfl,ho0,hb⟩;refine⟨_,rfl,?_⟩;replace HO_2:=zA (Kd.V_elder' (qV_ HO_2.out) (Kd.N_base ho0) hb);have HO104:=zA (Kd.N_lower (Kd.N_mono (ok':=fun k_=> (P2_ k_∨w.heap.size≤k_)∧k_≠gb101) ho0 (fun k_ hk_=> ⟨Or.elim hk_ (fun hs_=>hs_.1) (fun hn_=> (.inr (Nat.le_trans (zW qB) hn_))),Or.elim hk_ (fun hs_=>hs_.2) (fun hn_=> (Kd.freshB (g:=gb101) (o:= .cells #[.int .i64 0,.int .i64 0,.slice none 0 0] 99 (0,0)) (qW BK101.out) k_ hn_))⟩)) (zW qB));replace BK101:=zA (qX BK101.out hb);replace HB:=zA (zV qB hb);(try clear hb);(try clear ho0);obtain⟨Ao26,co26,eo26⟩:=Kd.N_slice HO104.out;subst eo26)|((with_reducible refine zJq (f:=129) rfl ?_);refine goesL_ (some 42) rfl rfl Try.func129 (by kernel_rfl) rfl #[.slice Ao26 t102.length co26] rfl qG ?_;(with_reducible refine(aY.calls kj5 _ _ t102 t106 _ ?side1 ?side2 A15.out).mono ?_);(case side1=>repeat(first|exact(Kd.N_reads' HO104.out).2.2|(with_reducible refine Kd.C_alloc ?_ _)|(with_reducible refine Kd.C_drewN ?_ _)|(with_reducible refine Kd.C_drew ?_)));(case side2=>exact(Kd.N_reads' HO104.out).2.1);rintro e w27 ⟨v107,rfl,ho0,hb⟩;refine⟨_,rfl,?_⟩;replace HO_2:=zA (Kd.V_elder' (qV_ HO_2.out) (Kd.R_base ho0) hb);replace HO104:=zA (Kd.N_elder' (qN_ HO104.out) (Kd.R_base ho0) hb);have HO108:=zA (Kd.R_lower (Kd.R_newM (M:=fun k_=> (w.heap.size≤k_)) ho0 (zW qB) (fun k_ h_=>h_)) (zW qB));replace BK101:=zA (qX BK101.out hb);replace HB:=zA (zV qB hb);(try clear hb);(try clear ho0);obtain⟨Ao28,co28,eo28⟩:=Kd.R_slice HO108.out;subst eo28)|((with_reducible refine zJq (f:=128) rfl ?_);refine goesL_ (some 43) rfl rfl Try.func128 (by kernel_rfl) rfl #[.slice Ao28 t106.length co28] rfl qG ?_;(with_reducible refine(aK.calls kj5 _ _ t106 false _ ?side1 ?side2 A16.out).mono ?_);(case side1=>repeat(first|exact(Kd.R_reads' HO108.out).2.2|(with_reducible refine Kd.C_alloc ?_ _)|(with_reducible refine Kd.C_drewN ?_ _)|(with_reducible refine Kd.C_drew ?_)));(case side2=>exact(Kd.R_reads' HO108.out).2.1);rintro e w' ⟨rfl,⟨nd,rfl⟩⟩;refine⟨_,rfl,?_⟩;(try(rw[drewN_self w27];generalize hq_:World.drewN w27 _=w27;have n0_:Aside0 (Kd.N k71 71 w27 w.heap.size (fun k_=> ((((P2_ k_∨w.heap.size≤k_))∧k_≠gb101)∧some k_≠(.slice Ao28 t106.length co28:Value).ownBlock)) (.slice Ao26 t102.length co26) t102):=⟨by rw[←hq_];exact(qN_ HO104.out)⟩;have n1_:Aside0 (Kd.R Kd.string 9 w27 w.heap.size (fun k_=> (((w.heap.size≤k_))∧True)) (.slice Ao28 t106.length co28) t106):=⟨by rw[←hq_];exact(qR_ HO108.out)⟩;have n2_:Aside0 (Kd.V k71 71 w27 w.heap.size (fun k_=> (((((P2_ k_∨w.heap.size≤k_))∧k_≠gb101)∧some k_≠(.slice Ao26 t102.length co26:Value).ownBlock)∧some k_≠(.slice Ao28 t106.length co28:Value).ownBlock)) (.slice A2 l2.length c2) l2):=⟨by rw[←hq_];exact(qV_ HO_2.out)⟩;have n3_:Aside0 (w27.heap[gb101]? =some (.cells #[.int .i64 0,.int .i64 0,.slice none 0 0] 99 (0,0))):=⟨by rw[←hq_];exact(qW BK101.out)⟩;have n4_:Aside0 (Below w.heap.size w w27):=⟨by rw[←hq_];exact qB⟩;clear HO104 HO108 HO_2 BK101 HB hq_;have HO104:=n0_;have HO108:=n1_;have HO_2:=n2_;have BK101:=n3_;have HB:=n4_;clear n0_ n1_ n2_ n3_ n4_)))|((with_reducible refine gate_dst (N:=14) rfl ?_);refine box_event qr (N:=14) qr (cs:= #[.int .i64 0,.int .i64 0,.slice none 0 0]) (t:=99) qg ?_;intro gb110 hg w29 hbox hb;replace HO_2:=zA (Kd.V_below (Kd.V_elderB (qV_ HO_2.out) gb110 (Nat.le_of_eq hg.symm)) hb);replace HO104:=zA (Kd.N_below (Kd.N_elderB (qN_ HO104.out) gb110 (Nat.le_of_eq hg.symm)) hb);replace HO108:=zA (Kd.R_below (qR_ HO108.out) hb);have BK110:=zA (hbox);have GW110:=zA ((qS:w.heap.size≤gb110));have GE110:=zA ((qS:w.heap.size≤gb110));replace HB:=zA (zV qB hb);have NB101_110:=zA ((by rw[hg];exact zLq (qL BK101.out):gb101≠gb110));have NB110_101:=zA ((by rw[hg];exact zMq (qL BK101.out):gb110≠gb101));replace BK101:=zA (qX BK101.out hb);clear hb hbox hg;have hnb30:=NB110_101.out;have hnc30:=NB101_110.out;obtain⟨_,_,_,_,_,_⟩:=qc3f BK110.out)|((with_reducible refine zJq (f:=91) rfl ?_);refine goesL_ (some 50) rfl rfl Try.func91 (by kernel_rfl) rfl #[.agg #[.int .i64 a0,.int .i64 a1,.slice Ao26 t102.length co26]] rfl qG ?_;(with_reducible refine(aI.calls kj5 a0 a1 _ _ t102 t111 _ ?side1 ?side2 A23.out).mono ?_);(case side1=>refine(Kd.N_reads' (e:=71) (base:=w.heap.size) (ok:=fun k_=> ((((P2_ k_∨w.heap.size≤k_)∧k_≠gb101)∧some k_≠(.slice Ao28 t106.length co28:Value).ownBlock)∧k_≠gb110)) (n:=t102.length) (c:=co26) ?_).2.2;exact(by(with_reducible repeat(first|apply Kd.N_alloc|apply Kd.N_drewN|apply Kd.N_drew));exact(Kd.N_mono (Kd.N_far (p:=⟨gb110,2,none⟩) (Kd.N_far (p:=⟨gb110,1,none⟩) (Kd.N_far (p:=⟨gb110,0,none⟩) (Kd.N_mono HO104.out (fun k_ hk=> (⟨hk,hk.2⟩:_∧k_≠gb110))) (fun _ hk=>hk.2) (.int .i64 a0)) (fun _ hk=>hk.2) (.int .i64 a1)) (fun _ hk=>hk.2) (.slice Ao26 t102.length co26)) (fun _ h_=>by first|exact h_.1|(have h2_:=h_.1;simp only[and_assoc,and_left_comm,and_comm] at h2_⊢;exact h2_)))));(case side2=>exact(Kd.N_reads' HO104.out).2.1);rintro e w32 ⟨rfl,hb⟩;refine⟨_,rfl,?_⟩;replace HO_2:=zA (Kd.V_below (by(with_reducible repeat(first|apply Kd.V_alloc|apply Kd.V_drewN|apply Kd.V_drew));exact(Kd.V_mono (Kd.V_far (p:=⟨gb110,2,none⟩) (Kd.V_far (p:=⟨gb110,1,none⟩) (Kd.V_far (p:=⟨gb110,0,none⟩) (Kd.V_mono HO_2.out (fun k_ hk=> (⟨hk,hk.2⟩:_∧k_≠gb110))) (fun _ hk=>hk.2) (.int .i64 a0)) (fun _ hk=>hk.2) (.int .i64 a1)) (fun _ hk=>hk.2) (.slice Ao26 t102.length co26)) (fun _ h_=>h_.1))) hb);replace HO104:=zA (Kd.N_below (by(with_reducible repeat(first|apply Kd.N_alloc|apply Kd.N_drewN|apply Kd.N_drew));exact(Kd.N_mono (Kd.N_far (p:=⟨gb110,2,none⟩) (Kd.N_far (p:=⟨gb110,1,none⟩) (Kd.N_far (p:=⟨gb110,0,none⟩) (Kd.N_mono HO104.out (fun k_ hk=> (⟨hk,hk.2⟩:_∧k_≠gb110))) (fun _ hk=>hk.2) (.int .i64 a0)) (fun _ hk=>hk.2) (.int .i64 a1)) (fun _ hk=>hk.2) (.slice Ao26 t102.length co26)) (fun _ h_=>h_.1))) hb);replace HO108:=zA (Kd.R_below (by(with_reducible repeat(first|apply Kd.R_alloc|apply Kd.R_drewN|apply Kd.R_drew));exact(Kd.R_mono (Kd.R_far (p:=⟨gb110,2,none⟩) (Kd.R_far (p:=⟨gb110,1,none⟩) (Kd.R_far (p:=⟨gb110,0,none⟩) (Kd.R_types HO108.out BK110.out (by decide)) (fun _ hk=>hk.2) (.int .i64 a0)) (fun _ hk=>hk.2) (.int .i64 a1)) (fun _ hk=>hk.2) (.slice Ao26 t102.length co26)) (fun _ h_=>h_.1))) hb);replace BK101:=zA (qX BK101.out hb);replace BK110:=zA (zX (g:=gb110) (o:= .cells #[.int .i64 a0,.int .i64 a1,.slice Ao26 t102.length co26] 99 (0,0)) (qV BK110.out) hb);replace HB:=zA (zV qB hb);(try clear hb);obtain⟨_,_,_,_,_,_⟩:=qc3f BK110.out;obtain⟨_,_,_,_,_,_⟩:=qc3f BK101.out))
     refine bodyPost_ret (results_ct rfl _ _ gb101 99 #[.int .i64 a0,.int .i64 a1,.slice Ao26 t102.length co26] (0,0) _ rfl (qV BK101.out) Try.underlying99 rfl (by kernel_rfl)) rfl ?_;exact⟨_,qE,by(with_reducible repeat(first|apply Kd.N_alloc|apply Kd.N_drewN|apply Kd.N_drew));exact Kd.N_mono (Kd.N_far (p:=⟨gb101,2,none⟩) (Kd.N_far (p:=⟨gb101,1,none⟩) (Kd.N_far (p:=⟨gb101,0,none⟩) (Kd.N_mono HO104.out (fun k_ hk=> (⟨hk,hk.1.1.2⟩:_∧k_≠gb101))) (fun _ hk=>hk.2) (.int .i64 a0)) (fun _ hk=>hk.2) (.int .i64 a1)) (fun _ hk=>hk.2) (.slice Ao26 t102.length co26)) (fun _ hk=>hk.1.1.1.1),qB⟩
    rw[if_neg c24] at H;have c24b0:(t111==0)=false:=beq_eq_false_iff_ne.mpr c24;have c24b1:(t111 != 0)=true:=bne_iff_ne.mpr c24;simp only[zNq,zOq] at H;obtain⟨rfl,rfl,rfl,rfl⟩:=H;go_wp2_with (first|((with_reducible refine zJq (f:=63) rfl ?_);refine goesL_ (some 34) rfl rfl Try.func63 (by kernel_rfl) rfl #[.slice A2 l2.length c2,.int .i64 a3,.int .i64 a4] rfl qG ?_;(with_reducible refine(aA.calls kj5 (fun k_=> ((P2_ k_∨w.heap.size≤k_)∧k_≠gb101)) _ _ l2 a3 a4 t102 t105 _ ?side1 A13.out).mono ?_);(case side1=>exact HO_2.out);rintro e w35 ⟨v103,rfl,ho0,hb⟩;refine⟨_,rfl,?_⟩;replace HO_2:=zA (Kd.V_elder' (qV_ HO_2.out) (Kd.N_base ho0) hb);have HO104:=zA (Kd.N_lower (Kd.N_mono (ok':=fun k_=> (P2_ k_∨w.heap.size≤k_)∧k_≠gb101) ho0 (fun k_ hk_=> ⟨Or.elim hk_ (fun hs_=>hs_.1) (fun hn_=> (.inr (Nat.le_trans (zW qB) hn_))),Or.elim hk_ (fun hs_=>hs_.2) (fun hn_=> (Kd.freshB (g:=gb101) (o:= .cells #[.int .i64 0,.int .i64 0,.slice none 0 0] 99 (0,0)) (qW BK101.out) k_ hn_))⟩)) (zW qB));replace BK101:=zA (qX BK101.out hb);replace HB:=zA (zV qB hb);(try clear hb);(try clear ho0);obtain⟨Ao36,co36,eo36⟩:=Kd.N_slice HO104.out;subst eo36)|((with_reducible refine zJq (f:=129) rfl ?_);refine goesL_ (some 42) rfl rfl Try.func129 (by kernel_rfl) rfl #[.slice Ao36 t102.length co36] rfl qG ?_;(with_reducible refine(aY.calls kj5 _ _ t102 t106 _ ?side1 ?side2 A15.out).mono ?_);(case side1=>repeat(first|exact(Kd.N_reads' HO104.out).2.2|(with_reducible refine Kd.C_alloc ?_ _)|(with_reducible refine Kd.C_drewN ?_ _)|(with_reducible refine Kd.C_drew ?_)));(case side2=>exact(Kd.N_reads' HO104.out).2.1);rintro e w37 ⟨v107,rfl,ho0,hb⟩;refine⟨_,rfl,?_⟩;replace HO_2:=zA (Kd.V_elder' (qV_ HO_2.out) (Kd.R_base ho0) hb);replace HO104:=zA (Kd.N_elder' (qN_ HO104.out) (Kd.R_base ho0) hb);have HO108:=zA (Kd.R_lower (Kd.R_newM (M:=fun k_=> (w.heap.size≤k_)) ho0 (zW qB) (fun k_ h_=>h_)) (zW qB));replace BK101:=zA (qX BK101.out hb);replace HB:=zA (zV qB hb);(try clear hb);(try clear ho0);obtain⟨Ao38,co38,eo38⟩:=Kd.R_slice HO108.out;subst eo38)|((with_reducible refine zJq (f:=128) rfl ?_);refine goesL_ (some 43) rfl rfl Try.func128 (by kernel_rfl) rfl #[.slice Ao38 t106.length co38] rfl qG ?_;(with_reducible refine(aK.calls kj5 _ _ t106 false _ ?side1 ?side2 A16.out).mono ?_);(case side1=>repeat(first|exact(Kd.R_reads' HO108.out).2.2|(with_reducible refine Kd.C_alloc ?_ _)|(with_reducible refine Kd.C_drewN ?_ _)|(with_reducible refine Kd.C_drew ?_)));(case side2=>exact(Kd.R_reads' HO108.out).2.1);rintro e w' ⟨rfl,⟨nd,rfl⟩⟩;refine⟨_,rfl,?_⟩;(try(rw[drewN_self w37];generalize hq_:World.drewN w37 _=w37;have n0_:Aside0 (Kd.N k71 71 w37 w.heap.size (fun k_=> ((((P2_ k_∨w.heap.size≤k_))∧k_≠gb101)∧some k_≠(.slice Ao38 t106.length co38:Value).ownBlock)) (.slice Ao36 t102.length co36) t102):=⟨by rw[←hq_];exact(qN_ HO104.out)⟩;have n1_:Aside0 (Kd.R Kd.string 9 w37 w.heap.size (fun k_=> (((w.heap.size≤k_))∧True)) (.slice Ao38 t106.length co38) t106):=⟨by rw[←hq_];exact(qR_ HO108.out)⟩;have n2_:Aside0 (Kd.V k71 71 w37 w.heap.size (fun k_=> (((((P2_ k_∨w.heap.size≤k_))∧k_≠gb101)∧some k_≠(.slice Ao36 t102.length co36:Value).ownBlock)∧some k_≠(.slice Ao38 t106.length co38:Value).ownBlock)) (.slice A2 l2.length c2) l2):=⟨by rw[←hq_];exact(qV_ HO_2.out)⟩;have n3_:Aside0 (w37.heap[gb101]? =some (.cells #[.int .i64 0,.int .i64 0,.slice none 0 0] 99 (0,0))):=⟨by rw[←hq_];exact(qW BK101.out)⟩;have n4_:Aside0 (Below w.heap.size w w37):=⟨by rw[←hq_];exact qB⟩;clear HO104 HO108 HO_2 BK101 HB hq_;have HO104:=n0_;have HO108:=n1_;have HO_2:=n2_;have BK101:=n3_;have HB:=n4_;clear n0_ n1_ n2_ n3_ n4_)))|((with_reducible refine gate_dst (N:=14) rfl ?_);refine box_event qr (N:=14) qr (cs:= #[.int .i64 0,.int .i64 0,.slice none 0 0]) (t:=99) qg ?_;intro gb110 hg w39 hbox hb;replace HO_2:=zA (Kd.V_below (Kd.V_elderB (qV_ HO_2.out) gb110 (Nat.le_of_eq hg.symm)) hb);replace HO104:=zA (Kd.N_below (Kd.N_elderB (qN_ HO104.out) gb110 (Nat.le_of_eq hg.symm)) hb);replace HO108:=zA (Kd.R_below (qR_ HO108.out) hb);have BK110:=zA (hbox);have GW110:=zA ((qS:w.heap.size≤gb110));have GE110:=zA ((qS:w.heap.size≤gb110));replace HB:=zA (zV qB hb);have NB101_110:=zA ((by rw[hg];exact zLq (qL BK101.out):gb101≠gb110));have NB110_101:=zA ((by rw[hg];exact zMq (qL BK101.out):gb110≠gb101));replace BK101:=zA (qX BK101.out hb);clear hb hbox hg;have hnb40:=NB110_101.out;have hnc40:=NB101_110.out;obtain⟨_,_,_,_,_,_⟩:=qc3f BK110.out)|((with_reducible refine zJq (f:=91) rfl ?_);refine goesL_ (some 50) rfl rfl Try.func91 (by kernel_rfl) rfl #[.agg #[.int .i64 a0,.int .i64 a1,.slice Ao36 t102.length co36]] rfl qG ?_;(with_reducible refine(aI.calls kj5 a0 a1 _ _ t102 t111 _ ?side1 ?side2 A23.out).mono ?_);(case side1=>refine(Kd.N_reads' (e:=71) (base:=w.heap.size) (ok:=fun k_=> ((((P2_ k_∨w.heap.size≤k_)∧k_≠gb101)∧some k_≠(.slice Ao38 t106.length co38:Value).ownBlock)∧k_≠gb110)) (n:=t102.length) (c:=co36) ?_).2.2;exact(by(with_reducible repeat(first|apply Kd.N_alloc|apply Kd.N_drewN|apply Kd.N_drew));exact(Kd.N_mono (Kd.N_far (p:=⟨gb110,2,none⟩) (Kd.N_far (p:=⟨gb110,1,none⟩) (Kd.N_far (p:=⟨gb110,0,none⟩) (Kd.N_mono HO104.out (fun k_ hk=> (⟨hk,hk.2⟩:_∧k_≠gb110))) (fun _ hk=>hk.2) (.int .i64 a0)) (fun _ hk=>hk.2) (.int .i64 a1)) (fun _ hk=>hk.2) (.slice Ao36 t102.length co36)) (fun _ h_=>by first|exact h_.1|(have h2_:=h_.1;simp only[and_assoc,and_left_comm,and_comm] at h2_⊢;exact h2_)))));(case side2=>exact(Kd.N_reads' HO104.out).2.1);rintro e w42 ⟨rfl,hb⟩;refine⟨_,rfl,?_⟩;replace HO_2:=zA (Kd.V_below (by(with_reducible repeat(first|apply Kd.V_alloc|apply Kd.V_drewN|apply Kd.V_drew));exact(Kd.V_mono (Kd.V_far (p:=⟨gb110,2,none⟩) (Kd.V_far (p:=⟨gb110,1,none⟩) (Kd.V_far (p:=⟨gb110,0,none⟩) (Kd.V_mono HO_2.out (fun k_ hk=> (⟨hk,hk.2⟩:_∧k_≠gb110))) (fun _ hk=>hk.2) (.int .i64 a0)) (fun _ hk=>hk.2) (.int .i64 a1)) (fun _ hk=>hk.2) (.slice Ao36 t102.length co36)) (fun _ h_=>h_.1))) hb);replace HO104:=zA (Kd.N_below (by(with_reducible repeat(first|apply Kd.N_alloc|apply Kd.N_drewN|apply Kd.N_drew));exact(Kd.N_mono (Kd.N_far (p:=⟨gb110,2,none⟩) (Kd.N_far (p:=⟨gb110,1,none⟩) (Kd.N_far (p:=⟨gb110,0,none⟩) (Kd.N_mono HO104.out (fun k_ hk=> (⟨hk,hk.2⟩:_∧k_≠gb110))) (fun _ hk=>hk.2) (.int .i64 a0)) (fun _ hk=>hk.2) (.int .i64 a1)) (fun _ hk=>hk.2) (.slice Ao36 t102.length co36)) (fun _ h_=>h_.1))) hb);replace HO108:=zA (Kd.R_below (by(with_reducible repeat(first|apply Kd.R_alloc|apply Kd.R_drewN|apply Kd.R_drew));exact(Kd.R_mono (Kd.R_far (p:=⟨gb110,2,none⟩) (Kd.R_far (p:=⟨gb110,1,none⟩) (Kd.R_far (p:=⟨gb110,0,none⟩) (Kd.R_types HO108.out BK110.out (by decide)) (fun _ hk=>hk.2) (.int .i64 a0)) (fun _ hk=>hk.2) (.int .i64 a1)) (fun _ hk=>hk.2) (.slice Ao36 t102.length co36)) (fun _ h_=>h_.1))) hb);replace BK101:=zA (qX BK101.out hb);replace BK110:=zA (zX (g:=gb110) (o:= .cells #[.int .i64 a0,.int .i64 a1,.slice Ao36 t102.length co36] 99 (0,0)) (qV BK110.out) hb);replace HB:=zA (zV qB hb);(try clear hb);obtain⟨_,_,_,_,_,_⟩:=qc3f BK101.out))
    refine bodyPost_ret (results_ct rfl _ _ gb101 99 #[.int .i64 0,.int .i64 0,.slice none 0 0] (0,0) _ rfl (qV BK101.out) Try.underlying99 rfl (by kernel_rfl)) rfl ?_;exact⟨_,qE,by first|exact Kd.S_nil _ _ _ _ _|exact Kd.N_nil _ _ _ _ _|exact Kd.V_nil _ _ _ _ _|exact Kd.Q_nil _ _ _ _ _|exact Kd.R_nil _ _ _ _ _,qB⟩
   rw[if_neg c14] at H;have c14b0:(t105==0)=false:=beq_eq_false_iff_ne.mpr c14;have c14b1:(t105 != 0)=true:=bne_iff_ne.mpr c14;simp only[zNq,zOq] at H;obtain⟨rfl,rfl,rfl,rfl⟩:=H;go_wp2_with (first|((with_reducible refine zJq (f:=63) rfl ?_);refine goesL_ (some 34) rfl rfl Try.func63 (by kernel_rfl) rfl #[.slice A2 l2.length c2,.int .i64 a3,.int .i64 a4] rfl qG ?_;(with_reducible refine(aA.calls kj5 (fun k_=> ((P2_ k_∨w.heap.size≤k_)∧k_≠gb101)) _ _ l2 a3 a4 t102 t105 _ ?side1 A13.out).mono ?_);(case side1=>exact HO_2.out);rintro e w44 ⟨v103,rfl,ho0,hb⟩;refine⟨_,rfl,?_⟩;replace HO_2:=zA (Kd.V_elder' (qV_ HO_2.out) (Kd.N_base ho0) hb);have HO104:=zA (Kd.N_lower (Kd.N_mono (ok':=fun k_=> (P2_ k_∨w.heap.size≤k_)∧k_≠gb101) ho0 (fun k_ hk_=> ⟨Or.elim hk_ (fun hs_=>hs_.1) (fun hn_=> (.inr (Nat.le_trans (zW qB) hn_))),Or.elim hk_ (fun hs_=>hs_.2) (fun hn_=> (Kd.freshB (g:=gb101) (o:= .cells #[.int .i64 0,.int .i64 0,.slice none 0 0] 99 (0,0)) (qW BK101.out) k_ hn_))⟩)) (zW qB));replace BK101:=zA (qX BK101.out hb);replace HB:=zA (zV qB hb);(try clear hb);(try clear ho0);obtain⟨_,_,_,_,_,_⟩:=qc3f BK101.out));refine bodyPost_ret (results_ct rfl _ _ gb101 99 #[.int .i64 0,.int .i64 0,.slice none 0 0] (0,0) _ rfl (qV BK101.out) Try.underlying99 rfl (by kernel_rfl)) rfl ?_;exact⟨_,qE,by first|exact Kd.S_nil _ _ _ _ _|exact Kd.N_nil _ _ _ _ _|exact Kd.V_nil _ _ _ _ _|exact Kd.Q_nil _ _ _ _ _|exact Kd.R_nil _ _ _ _ _,qB⟩
def cA.f (k:Nat) (a0_0:Int) (a0_1:Int) (a0_2:Int) (a0_3:Int) (l0_4:List ByteArray) (a1_0:Int) (a1_1:Int) (a1_2:Int) (a1_3:Int) (l1_4:List ByteArray):Option (Bool):=if a0_0=a1_0 then(if a0_1=a1_1 then(if a0_2=a1_2 then(if a0_3=a1_3 then((aV.f k l0_4 l1_4).bind fun t103=> (some t103))else(some false))else(some false))else(some false))else(some false)
theorem cA.mono: ∀ a0 a1 a2 a3 a4 a5 a6 a7 a8 a9 k,LeO (cA.f k a0 a1 a2 a3 a4 a5 a6 a7 a8 a9) (cA.f (k+1) a0 a1 a2 a3 a4 a5 a6 a7 a8 a9):=by
  intro a0 a1 a2 a3 a4 a5 a6 a7 a8 a9 k
  unfold cA.f
  repeat' (with_reducible first|exact aV.mono _ _ _|exact LeO.refl _|exact LeO.none _|refine LeO.ite ?_ ?_|refine LeO.bind ?_ (fun _=>?_))
theorem cA.calls (k:Nat) (a0_0:Int) (a0_1:Int) (a0_2:Int) (a0_3:Int) (A0_4:Option Addr) (c0_4:Nat) (l0_4:List ByteArray) (a1_0:Int) (a1_1:Int) (a1_2:Int) (a1_3:Int) (A1_4:Option Addr) (c1_4:Nat) (l1_4:List ByteArray) (r:Bool) (w:World) (hr0_4:Kd.C Kd.string w A0_4 l0_4.length l0_4) (hc0_4:l0_4.length≤c0_4) (hr1_4:Kd.C Kd.string w A1_4 l1_4.length l1_4) (hc1_4:l1_4.length≤c1_4) (h:cA.f k a0_0 a0_1 a0_2 a0_3 l0_4 a1_0 a1_1 a1_2 a1_3 l1_4=some r):
  Calls Try.prog 116 #[.agg #[.int .i64 a0_0,.int .i64 a0_1,.int .i64 a0_2,.int .i64 a0_3,.slice A0_4 l0_4.length c0_4],.agg #[.int .i64 a1_0,.int .i64 a1_1,.int .i64 a1_2,.int .i64 a1_3,.slice A1_4 l1_4.length c1_4]] w fun e w'=>e= .returned (.bool r)∧Below w.heap.size w w':=by
 have hu71:=Try.underlying71
 have HR0_4:=zA hr0_4
 have HC0_4:=zA hc0_4
 clear hr0_4 hc0_4
 have HR1_4:=zA hr1_4
 have HC1_4:=zA hc1_4
 clear hr1_4 hc1_4
 have HB:=zA (Below.refl w.heap.size w)
 have H:(if a0_0=a1_0 then(if a0_1=a1_1 then(if a0_2=a1_2 then(if a0_3=a1_3 then((aV.f k l0_4 l1_4).bind fun t103=> (some t103))else(some false))else(some false))else(some false))else(some false))=some r:=h
 clear h
 by_cases c3:a0_0=a1_0
 ·rw[if_pos c3] at H
  have c3b0:(a0_0==a1_0)=true:=beq_iff_eq.mpr c3;have c3b1:(a0_0 != a1_0)=false:=bne_eq_false_iff_eq.mpr c3;clear c3;by_cases c4:a0_1=a1_1
  ·rw[if_pos c4] at H
   have c4b0:(a0_1==a1_1)=true:=beq_iff_eq.mpr c4;have c4b1:(a0_1 != a1_1)=false:=bne_eq_false_iff_eq.mpr c4;clear c4;by_cases c5:a0_2=a1_2
   ·rw[if_pos c5] at H
    have c5b0:(a0_2==a1_2)=true:=beq_iff_eq.mpr c5;have c5b1:(a0_2 != a1_2)=false:=bne_eq_false_iff_eq.mpr c5;clear c5;by_cases c6:a0_3=a1_3
    ·rw[if_pos c6] at H
     have c6b0:(a0_3==a1_3)=true:=beq_iff_eq.mpr c6;have c6b1:(a0_3 != a1_3)=false:=bne_eq_false_iff_eq.mpr c6;clear c6;obtain⟨t103,A7,H⟩:=qD_ H;(try dsimp only at H);obtain rfl:=zKq H;go_enter Try.func116,Try.ntmps116;go_wp2_with (first|((with_reducible refine gate_dst (N:=2) rfl ?_);refine box_event qr (N:=2) qr (cs:= #[.int .i64 a0_0,.int .i64 a0_1,.int .i64 a0_2,.int .i64 a0_3,.slice A0_4 l0_4.length c0_4]) (t:=71) qg ?_;intro gb101 hg w8 hbox hb;have BK101:=zA (hbox);have GW101:=zA ((qS:w.heap.size≤gb101));have GE101:=zA ((qS:w.heap.size≤gb101));replace HB:=zA (zV qB hb);clear hb hbox hg)|((with_reducible refine gate_dst (N:=3) rfl ?_);refine box_event qr (N:=3) qr (cs:= #[.int .i64 a1_0,.int .i64 a1_1,.int .i64 a1_2,.int .i64 a1_3,.slice A1_4 l1_4.length c1_4]) (t:=71) qg ?_;intro gb102 hg w9 hbox hb;have BK102:=zA (hbox);have GW102:=zA ((qS:w.heap.size≤gb102));have GE102:=zA ((qS:w.heap.size≤gb102));replace HB:=zA (zV qB hb);have NB101_102:=zA ((by rw[hg];exact zLq (qL BK101.out):gb101≠gb102));have NB102_101:=zA ((by rw[hg];exact zMq (qL BK101.out):gb102≠gb101));replace BK101:=zA (qX BK101.out hb);clear hb hbox hg;have hnb10:=NB101_102.out;have hnc10:=NB102_101.out;obtain⟨_,_,_,_,_,_,_,_,_,_⟩:=qc5f BK101.out;obtain⟨_,_,_,_,_,_,_,_,_,_⟩:=qc5f BK102.out)|(go_at_call 92;(with_reducible refine(aV.calls k _ _ l0_4 _ _ l1_4 t103 _ ?side1 ?side2 ?side3 ?side4 A7.out).mono ?_);(case side1=>exact qC (Kd.C_below HR0_4.out HB.out));(case side2=>exact HC0_4.out);(case side3=>exact qC (Kd.C_below HR1_4.out HB.out));(case side4=>exact HC1_4.out);rintro e w' ⟨rfl,⟨nd,rfl⟩⟩));go_ret;exact⟨qE,qB⟩
    rw[if_neg c6] at H;have c6b0:(a0_3==a1_3)=false:=beq_eq_false_iff_ne.mpr c6;have c6b1:(a0_3 != a1_3)=true:=bne_iff_ne.mpr c6;obtain rfl:=zKq H;go_enter Try.func116,Try.ntmps116;go_wp2_with (first|((with_reducible refine gate_dst (N:=2) rfl ?_);refine box_event qr (N:=2) qr (cs:= #[.int .i64 a0_0,.int .i64 a0_1,.int .i64 a0_2,.int .i64 a0_3,.slice A0_4 l0_4.length c0_4]) (t:=71) qg ?_;intro gb101 hg w13 hbox hb;have BK101:=zA (hbox);have GW101:=zA ((qS:w.heap.size≤gb101));have GE101:=zA ((qS:w.heap.size≤gb101));replace HB:=zA (zV qB hb);clear hb hbox hg)|((with_reducible refine gate_dst (N:=3) rfl ?_);refine box_event qr (N:=3) qr (cs:= #[.int .i64 a1_0,.int .i64 a1_1,.int .i64 a1_2,.int .i64 a1_3,.slice A1_4 l1_4.length c1_4]) (t:=71) qg ?_;intro gb102 hg w14 hbox hb;have BK102:=zA (hbox);have GW102:=zA ((qS:w.heap.size≤gb102));have GE102:=zA ((qS:w.heap.size≤gb102));replace HB:=zA (zV qB hb);have NB101_102:=zA ((by rw[hg];exact zLq (qL BK101.out):gb101≠gb102));have NB102_101:=zA ((by rw[hg];exact zMq (qL BK101.out):gb102≠gb101));replace BK101:=zA (qX BK101.out hb);clear hb hbox hg;have hnb15:=NB101_102.out;have hnc15:=NB102_101.out;obtain⟨_,_,_,_,_,_,_,_,_,_⟩:=qc5f BK101.out;obtain⟨_,_,_,_,_,_,_,_,_,_⟩:=qc5f BK102.out));go_ret;exact⟨qE,qB⟩
   rw[if_neg c5] at H;have c5b0:(a0_2==a1_2)=false:=beq_eq_false_iff_ne.mpr c5;have c5b1:(a0_2 != a1_2)=true:=bne_iff_ne.mpr c5;obtain rfl:=zKq H;go_enter Try.func116,Try.ntmps116;go_wp2_with (first|((with_reducible refine gate_dst (N:=2) rfl ?_);refine box_event qr (N:=2) qr (cs:= #[.int .i64 a0_0,.int .i64 a0_1,.int .i64 a0_2,.int .i64 a0_3,.slice A0_4 l0_4.length c0_4]) (t:=71) qg ?_;intro gb101 hg w18 hbox hb;have BK101:=zA (hbox);have GW101:=zA ((qS:w.heap.size≤gb101));have GE101:=zA ((qS:w.heap.size≤gb101));replace HB:=zA (zV qB hb);clear hb hbox hg)|((with_reducible refine gate_dst (N:=3) rfl ?_);refine box_event qr (N:=3) qr (cs:= #[.int .i64 a1_0,.int .i64 a1_1,.int .i64 a1_2,.int .i64 a1_3,.slice A1_4 l1_4.length c1_4]) (t:=71) qg ?_;intro gb102 hg w19 hbox hb;have BK102:=zA (hbox);have GW102:=zA ((qS:w.heap.size≤gb102));have GE102:=zA ((qS:w.heap.size≤gb102));replace HB:=zA (zV qB hb);have NB101_102:=zA ((by rw[hg];exact zLq (qL BK101.out):gb101≠gb102));have NB102_101:=zA ((by rw[hg];exact zMq (qL BK101.out):gb102≠gb101));replace BK101:=zA (qX BK101.out hb);clear hb hbox hg;have hnb20:=NB101_102.out;have hnc20:=NB102_101.out;obtain⟨_,_,_,_,_,_,_,_,_,_⟩:=qc5f BK101.out;obtain⟨_,_,_,_,_,_,_,_,_,_⟩:=qc5f BK102.out));go_ret;exact⟨qE,qB⟩
  rw[if_neg c4] at H;have c4b0:(a0_1==a1_1)=false:=beq_eq_false_iff_ne.mpr c4;have c4b1:(a0_1 != a1_1)=true:=bne_iff_ne.mpr c4;obtain rfl:=zKq H;go_enter Try.func116,Try.ntmps116;go_wp2_with (first|((with_reducible refine gate_dst (N:=2) rfl ?_);refine box_event qr (N:=2) qr (cs:= #[.int .i64 a0_0,.int .i64 a0_1,.int .i64 a0_2,.int .i64 a0_3,.slice A0_4 l0_4.length c0_4]) (t:=71) qg ?_;intro gb101 hg w23 hbox hb;have BK101:=zA (hbox);have GW101:=zA ((qS:w.heap.size≤gb101));have GE101:=zA ((qS:w.heap.size≤gb101));replace HB:=zA (zV qB hb);clear hb hbox hg)|((with_reducible refine gate_dst (N:=3) rfl ?_);refine box_event qr (N:=3) qr (cs:= #[.int .i64 a1_0,.int .i64 a1_1,.int .i64 a1_2,.int .i64 a1_3,.slice A1_4 l1_4.length c1_4]) (t:=71) qg ?_;intro gb102 hg w24 hbox hb;have BK102:=zA (hbox);have GW102:=zA ((qS:w.heap.size≤gb102));have GE102:=zA ((qS:w.heap.size≤gb102));replace HB:=zA (zV qB hb);have NB101_102:=zA ((by rw[hg];exact zLq (qL BK101.out):gb101≠gb102));have NB102_101:=zA ((by rw[hg];exact zMq (qL BK101.out):gb102≠gb101));replace BK101:=zA (qX BK101.out hb);clear hb hbox hg;have hnb25:=NB101_102.out;have hnc25:=NB102_101.out;obtain⟨_,_,_,_,_,_,_,_,_,_⟩:=qc5f BK101.out;obtain⟨_,_,_,_,_,_,_,_,_,_⟩:=qc5f BK102.out));go_ret;exact⟨qE,qB⟩
 rw[if_neg c3] at H
 have c3b0:(a0_0==a1_0)=false:=beq_eq_false_iff_ne.mpr c3
 have c3b1:(a0_0 != a1_0)=true:=bne_iff_ne.mpr c3
 obtain rfl:=zKq H
 go_enter Try.func116,Try.ntmps116
 go_wp2_with (first|((with_reducible refine gate_dst (N:=2) rfl ?_);refine box_event qr (N:=2) qr (cs:= #[.int .i64 a0_0,.int .i64 a0_1,.int .i64 a0_2,.int .i64 a0_3,.slice A0_4 l0_4.length c0_4]) (t:=71) qg ?_;intro gb101 hg w28 hbox hb;have BK101:=zA (hbox);have GW101:=zA ((qS:w.heap.size≤gb101));have GE101:=zA ((qS:w.heap.size≤gb101));replace HB:=zA (zV qB hb);clear hb hbox hg)|((with_reducible refine gate_dst (N:=3) rfl ?_);refine box_event qr (N:=3) qr (cs:= #[.int .i64 a1_0,.int .i64 a1_1,.int .i64 a1_2,.int .i64 a1_3,.slice A1_4 l1_4.length c1_4]) (t:=71) qg ?_;intro gb102 hg w29 hbox hb;have BK102:=zA (hbox);have GW102:=zA ((qS:w.heap.size≤gb102));have GE102:=zA ((qS:w.heap.size≤gb102));replace HB:=zA (zV qB hb);have NB101_102:=zA ((by rw[hg];exact zLq (qL BK101.out):gb101≠gb102));have NB102_101:=zA ((by rw[hg];exact zMq (qL BK101.out):gb102≠gb101));replace BK101:=zA (qX BK101.out hb);clear hb hbox hg;have hnb30:=NB101_102.out;have hnc30:=NB102_101.out;obtain⟨_,_,_,_,_,_,_,_,_,_⟩:=qc5f BK101.out;obtain⟨_,_,_,_,_,_,_,_,_,_⟩:=qc5f BK102.out))
 go_ret
 exact⟨qE,qB⟩
def aN.l0:Nat→List (S71)→List (S71)→Int→Option (Bool)
  |0,_,_,_=>none
  |k+1,x0,x1,x5=>if x5 < (x0.length:Int)then(if 0≤x5 then(if x5 < (x1.length:Int)then((cA.f k ((rd_T71 x0 x5).f0) ((rd_T71 x0 x5).f1) ((rd_T71 x0 x5).f2) ((rd_T71 x0 x5).f3) ((rd_T71 x0 x5).f4) ((rd_T71 x1 x5).f0) ((rd_T71 x1 x5).f1) ((rd_T71 x1 x5).f2) ((rd_T71 x1 x5).f3) ((rd_T71 x1 x5).f4)).bind fun t103=> (if t103=true then(aN.l0 k x0 x1 (wrap64 (x5+1)))else(some false)))else(none))else(none))else(some true)
def aN.f (k:Nat) (l0:List (S71)) (l1:List (S71)):Option (Bool):=if(l0.length:Int)=(l1.length:Int)then(aN.l0 k l0 l1 0)else(some false)
theorem aN.mono_l: ∀ k,(∀ y0 y1 y2,LeO (aN.l0 k y0 y1 y2) (aN.l0 (k+1) y0 y1 y2))
  |0=>fun _ _ _ r h=>by simp[aN.l0] at h
  |k+1=>by
    have ih0:=aN.mono_l k
    intro y0 y1 y2
    unfold aN.l0
    repeat' (with_reducible first|exact ih0 _ _ _|exact cA.mono _ _ _ _ _ _ _ _ _ _ _|exact LeO.refl _|exact LeO.none _|refine LeO.ite ?_ ?_|refine LeO.bind ?_ (fun _=>?_))
theorem aN.mono: ∀ a0 a1 k,LeO (aN.f k a0 a1) (aN.f (k+1) a0 a1):=by
  intro a0 a1 k
  have ih0:=aN.mono_l k
  unfold aN.f
  repeat' (with_reducible first|exact ih0 _ _ _|exact cA.mono _ _ _ _ _ _ _ _ _ _ _|exact LeO.refl _|exact LeO.none _|refine LeO.ite ?_ ?_|refine LeO.bind ?_ (fun _=>?_))
def aN.T6:Bool × List (List Nat × List Nat):=(true,[([],[]),([],[]),([0,1],[0,1]),([2],[2]),([],[]),([],[]),([4,5],[4,5]),([6],[6]),([3,7],[3,7]),([8],[8])])
def aN.B6:List Nat:=[0,0,3,7,0,0,48,112,255,511]
theorem aN.tab6:rtab .any (opsOf Try.f64 6)=aN.T6:=by kernel_rfl
theorem aN.bits6:waitsOk aN.T6.2 aN.B6=true:=by kernel_rfl
theorem aN.calls (k:Nat) (A0:Option Addr) (c0:Nat) (l0:List (S71)) (A1:Option Addr) (c1:Nat) (l1:List (S71)) (r:Bool) (w:World) (hr0:Kd.C k71 w A0 l0.length l0) (hc0:l0.length≤c0) (hr1:Kd.C k71 w A1 l1.length l1) (hc1:l1.length≤c1) (h:aN.f k l0 l1=some r):
  Calls Try.prog 64 #[.slice A0 l0.length c0,.slice A1 l1.length c1] w fun e w'=>e= .returned (.bool r)∧Below w.heap.size w w':=by
 have hu71:=Try.underlying71
 have HR0:=zA hr0
 have HC0:=zA hc0
 clear hr0 hc0
 have HR1:=zA hr1
 have HC1:=zA hc1
 clear hr1 hc1
 have HB:=zA (Below.refl w.heap.size w)
 have H:(if(l0.length:Int)=(l1.length:Int)then(aN.l0 k l0 l1 0)else(some false))=some r:=h
 clear h
 by_cases c3:(l0.length:Int)=(l1.length:Int)
 ·rw[if_pos c3] at H
  have c3b0:((l0.length:Int)==(l1.length:Int))=true:=beq_iff_eq.mpr c3;have c3b1:((l0.length:Int) !=(l1.length:Int))=false:=bne_eq_false_iff_eq.mpr c3;have c3b2:(l0.length==l1.length)=true:=by first|simpa using c3|(simp at c3⊢;omega)
  clear c3;have H':=zA H;clear H;go_enter Try.func64,Try.ntmps64;go_wp2;go_loopg[5] k (fun kq v5 w'=> ∃ (x5_1:Int),v5= .int .i64 x5_1∧Aside0 (aN.l0 kq l0 l1 x5_1=some r)∧Aside0 (kq≤k)∧Aside0 (Below w.heap.size w w'))
  case atStart=>exact⟨(0),qF_,H',⟨Nat.le_refl _⟩,⟨qB⟩⟩
  case round=>
   clear H';try clear c1
   try clear p2
   try clear c3
   try clear c3b0
   try clear c3b1
   try clear c3b2
   obtain⟨x5_1,rfl,HA,HK1,HB⟩:=hrel;cases gk with
   |zero=>exact absurd HA.out (by simp[aN.l0])
   |succ k1=>
    have H:=HA.out;clear HA;simp only[aN.l0] at H;by_cases c4:x5_1 < (l0.length:Int)
    ·rw[if_pos c4] at H
     have c4b0:=zFq c4;clear c4;by_cases c5:0≤x5_1
     ·rw[if_pos c5] at H
      have c5b0:=zFq c5;clear c5;by_cases c6:x5_1 < (l1.length:Int)
      ·rw[if_pos c6] at H
       have c6b0:=zFq c6;clear c6;obtain⟨t103,A7,H⟩:=qD_ H;(try dsimp only at H);by_cases c8:t103=true
       ·subst c8
        have H1:(aN.l0 k1 l0 l1 (wrap64 (x5_1+1)))=some r:=by first|(rw[if_pos rfl] at H;exact H)|rfl
        clear H;have H:=H1;clear H1;have H':=zA H;clear H;try go_wp2
        replace HB:=zA (zC HB.out);have p101:0≤(x5_1:Int):=qO_;have q101:x5_1 < (l0.length:Int):=qO_;obtain⟨ad101,A101_4,c101_4,e101,hx101_0,hx101_1,hx101_2,hx101_3,hx101_4,hl101_4,hi101_4⟩:=at_T71 HR0.out x5_1 p101 q101;have hw101_4:=hx101_4;have hw101_3:=hx101_3;have hw101_2:=hx101_2;have hw101_1:=hx101_1;have hw101_0:=hx101_0;cases e101
        replace hx101_0:=qU_ hx101_0;replace hx101_1:=qU_ hx101_1;replace hx101_2:=qU_ hx101_2;replace hx101_3:=qU_ hx101_3;replace hx101_4:=qU_ hx101_4;have HR101_4:=zA hi101_4;have HC101_4:=zA hl101_4;clear hi101_4 hl101_4;replace p101:=eq_true p101;replace q101:=eq_true q101;have p102:0≤(x5_1:Int):=qO_;have q102:x5_1 < (l1.length:Int):=qO_;obtain⟨ad102,A102_4,c102_4,e102,hx102_0,hx102_1,hx102_2,hx102_3,hx102_4,hl102_4,hi102_4⟩:=at_T71 HR1.out x5_1 p102 q102;have hw102_4:=hx102_4;have hw102_3:=hx102_3;have hw102_2:=hx102_2;have hw102_1:=hx102_1;have hw102_0:=hx102_0;cases e102
        replace hx102_0:=qU_ hx102_0;replace hx102_1:=qU_ hx102_1;replace hx102_2:=qU_ hx102_2;replace hx102_3:=qU_ hx102_3;replace hx102_4:=qU_ hx102_4;have HR102_4:=zA hi102_4;have HC102_4:=zA hl102_4;clear hi102_4 hl102_4;replace p102:=eq_true p102;replace q102:=eq_true q102;refine start_ (n:=10) (S:=fun w'=>w'.cell? (ad101.add ((x5_1).toNat * 5))=some (.int .i64 ((rd_T71 l0 x5_1).f0))∧w'.cell? ⟨(ad101.add ((x5_1).toNat * 5)).block,(ad101.add ((x5_1).toNat * 5)).off+1,none⟩=some (.int .i64 ((rd_T71 l0 x5_1).f1))∧w'.cell? ⟨(ad101.add ((x5_1).toNat * 5)).block,(ad101.add ((x5_1).toNat * 5)).off+2,none⟩=some (.int .i64 ((rd_T71 l0 x5_1).f2))∧w'.cell? ⟨(ad101.add ((x5_1).toNat * 5)).block,(ad101.add ((x5_1).toNat * 5)).off+3,none⟩=some (.int .i64 ((rd_T71 l0 x5_1).f3))∧w'.cell? ⟨(ad101.add ((x5_1).toNat * 5)).block,(ad101.add ((x5_1).toNat * 5)).off+4,none⟩=some (.slice A101_4 ((rd_T71 l0 x5_1).f4).length c101_4)∧w'.cell? (ad102.add ((x5_1).toNat * 5))=some (.int .i64 ((rd_T71 l1 x5_1).f0))∧w'.cell? ⟨(ad102.add ((x5_1).toNat * 5)).block,(ad102.add ((x5_1).toNat * 5)).off+1,none⟩=some (.int .i64 ((rd_T71 l1 x5_1).f1))∧w'.cell? ⟨(ad102.add ((x5_1).toNat * 5)).block,(ad102.add ((x5_1).toNat * 5)).off+2,none⟩=some (.int .i64 ((rd_T71 l1 x5_1).f2))∧w'.cell? ⟨(ad102.add ((x5_1).toNat * 5)).block,(ad102.add ((x5_1).toNat * 5)).off+3,none⟩=some (.int .i64 ((rd_T71 l1 x5_1).f3))∧w'.cell? ⟨(ad102.add ((x5_1).toNat * 5)).block,(ad102.add ((x5_1).toNat * 5)).off+4,none⟩=some (.slice A102_4 ((rd_T71 l1 x5_1).f4).length c102_4)) (ds:=[]) #[Z,Z,Z,Z,Z,Z,Z,Z,Z,Z] (by kernel_rfl) rfl rfl ⟨(qU_ hw101_0),(qU_ hw101_1),(qU_ hw101_2),(qU_ hw101_3),(qU_ hw101_4),(qU_ hw102_0),(qU_ hw102_1),(qU_ hw102_2),(qU_ hw102_3),(qU_ hw102_4)⟩ (fun hHeld=>?_);refine with_tabW aN.tab6 aN.bits6 (fun HT_ HW_=>?_);generalize wr.drew=w9 at HB HR101_4 HR102_4 hx101_0 hx101_1 hx101_2 hx101_3 hx101_4 hx102_0 hx102_1 hx102_2 hx102_3 hx102_4 hHeld⊢;refine pure_ (i:=0) (N:=some 17) #[I,Z,Z,Z,Z,Z,Z,Z,Z,Z] rfl rfl (any_of HT_.out (by kernel_rfl)) (fun _ _ _ h=>h) (Or.inl ⟨by rfl,qy⟩) qz ?_
        refine pure_ (i:=1) (N:=some 18) #[I,I,Z,Z,Z,Z,Z,Z,Z,Z] rfl rfl (any_of HT_.out (by kernel_rfl)) (fun _ _ _ h=>h) (Or.inl ⟨by rfl,qy⟩) qz ?_;refine pure_ (i:=2) (N:=some 19) #[I,I,I,Z,Z,Z,Z,Z,Z,Z] rfl rfl (any_of HT_.out (by kernel_rfl)) (fun _ _ _ h=>h) (Or.inl ⟨by rfl,qy⟩) qz ?_;refine pure_ (i:=4) (N:=some 21) #[I,I,I,Z,I,Z,Z,Z,Z,Z] rfl rfl (any_of HT_.out (by kernel_rfl)) (fun _ _ _ h=>h) (Or.inl ⟨by rfl,qy⟩) qz ?_;refine pure_ (i:=5) (N:=some 22) #[I,I,I,Z,I,I,Z,Z,Z,Z] rfl rfl (any_of HT_.out (by kernel_rfl)) (fun _ _ _ h=>h) (Or.inl ⟨by rfl,qy⟩) qz ?_;refine pure_ (i:=6) (N:=some 23) #[I,I,I,Z,I,I,I,Z,Z,Z] rfl rfl (any_of HT_.out (by kernel_rfl)) (fun _ _ _ h=>h) (Or.inl ⟨by rfl,qy⟩) qz ?_;refine take_ (i:=3) (N:=some 20) (v:=?_) (a':=?_) #[I,I,I,I,I,I,I,Z,Z,Z] rfl rfl (take_ofW HT_.out HW_.out (by kernel_rfl)) (fun _ _ _ h=>h) (Or.inl ⟨by rfl,?_⟩) hHeld ?_ ?_;rotate_left
        ·rintro w' ⟨s0,s1,s2,s3,s4,s5,s6,s7,s8,s9⟩
         go_simp;with_reducible rfl
        rotate_left
        ·simp only[Act.put,zH,zI,zJ,i64_w,i32_w]
         rfl
        refine take_ (i:=7) (N:=some 24) (v:=?_) (a':=?_) #[I,I,I,I,I,I,I,I,Z,Z] rfl rfl (take_ofW HT_.out HW_.out (by kernel_rfl)) (fun _ _ _ h=>h) (Or.inl ⟨by rfl,?_⟩) hHeld ?_ ?_;rotate_left
        ·rintro w' ⟨s0,s1,s2,s3,s4,s5,s6,s7,s8,s9⟩
         go_simp;with_reducible rfl
        rotate_left
        ·simp only[Act.put,zH,zI,zJ,i64_w,i32_w]
         rfl
        refine one_ (i:=8) (N:=some 25) #[I,I,I,I,I,I,I,I,I,Z] rfl rfl (one_of HT_.out (by kernel_rfl)) (by decide) (fun K hK=>?_);refine goes_ Try.func116 (by kernel_rfl) rfl #[.agg #[.int .i64 ((rd_T71 l0 x5_1).f0),.int .i64 ((rd_T71 l0 x5_1).f1),.int .i64 ((rd_T71 l0 x5_1).f2),.int .i64 ((rd_T71 l0 x5_1).f3),.slice A101_4 ((rd_T71 l0 x5_1).f4).length c101_4],.agg #[.int .i64 ((rd_T71 l1 x5_1).f0),.int .i64 ((rd_T71 l1 x5_1).f1),.int .i64 ((rd_T71 l1 x5_1).f2),.int .i64 ((rd_T71 l1 x5_1).f3),.slice A102_4 ((rd_T71 l1 x5_1).f4).length c102_4]] (by rfl) rfl rfl qG ?_;with_reducible refine(cA.calls k1 ((rd_T71 l0 x5_1).f0) ((rd_T71 l0 x5_1).f1) ((rd_T71 l0 x5_1).f2) ((rd_T71 l0 x5_1).f3) _ _ ((rd_T71 l0 x5_1).f4) ((rd_T71 l1 x5_1).f0) ((rd_T71 l1 x5_1).f1) ((rd_T71 l1 x5_1).f2) ((rd_T71 l1 x5_1).f3) _ _ ((rd_T71 l1 x5_1).f4) true _ ?side1 ?side2 ?side3 ?side4 A7.out).mono ?_
        (case side1=>exact qC (Kd.C_below HR101_4.out HB.out))
        (case side2=>exact HC101_4.out)
        (case side3=>exact qC (Kd.C_below HR102_4.out HB.out))
        (case side4=>exact HC102_4.out)
        rintro e w10 ⟨rfl,hb⟩;refine⟨_,rfl,?_⟩;replace HB:=zA (zV qB hb);(try clear hb);refine hK.out _ _ ⟨(qU_ hw101_0),(qU_ hw101_1),(qU_ hw101_2),(qU_ hw101_3),(qU_ hw101_4),(qU_ hw102_0),(qU_ hw102_1),(qU_ hw102_2),(qU_ hw102_3),(qU_ hw102_4)⟩ (fun hHeld=>?_);clear hK K;refine norm_ (a':=?_) ?_ ?_;rotate_left
        ·show Act.put _ (some 25) _=_
         simp only[Act.put,zH,zI,zJ,i64_w,i32_w];rfl
        refine pure_ (i:=9) (N:=some 26) #[I,I,I,I,I,I,I,I,I,I] rfl rfl (any_of HT_.out (by kernel_rfl)) (fun _ _ _ h=>h) (Or.inl ⟨by rfl,qy⟩) qz ?_;refine done_ (done_of HT_.out (by kernel_rfl)) ?_;try go_wp2
        go_roundg k1
        case measure=>have:=HK1.out;omega
        case rel=>exact⟨(wrap64 (x5_1+1)),qF_,H',⟨by have:=HK1.out;omega⟩,⟨qB⟩⟩
       replace c8:=Bool.eq_false_iff.mpr c8;subst c8;have H1:(some false)=some r:=by first|(rw[if_neg (show ¬ (false=true) by decide)] at H;exact H)|rfl
       clear H;have H:=H1;clear H1;obtain rfl:=zKq H;try go_wp2
       replace HB:=zA (zC HB.out);have p101:0≤(x5_1:Int):=qO_;have q101:x5_1 < (l0.length:Int):=qO_;obtain⟨ad101,A101_4,c101_4,e101,hx101_0,hx101_1,hx101_2,hx101_3,hx101_4,hl101_4,hi101_4⟩:=at_T71 HR0.out x5_1 p101 q101;have hw101_4:=hx101_4;have hw101_3:=hx101_3;have hw101_2:=hx101_2;have hw101_1:=hx101_1;have hw101_0:=hx101_0;cases e101
       replace hx101_0:=qU_ hx101_0;replace hx101_1:=qU_ hx101_1;replace hx101_2:=qU_ hx101_2;replace hx101_3:=qU_ hx101_3;replace hx101_4:=qU_ hx101_4;have HR101_4:=zA hi101_4;have HC101_4:=zA hl101_4;clear hi101_4 hl101_4;replace p101:=eq_true p101;replace q101:=eq_true q101;have p102:0≤(x5_1:Int):=qO_;have q102:x5_1 < (l1.length:Int):=qO_;obtain⟨ad102,A102_4,c102_4,e102,hx102_0,hx102_1,hx102_2,hx102_3,hx102_4,hl102_4,hi102_4⟩:=at_T71 HR1.out x5_1 p102 q102;have hw102_4:=hx102_4;have hw102_3:=hx102_3;have hw102_2:=hx102_2;have hw102_1:=hx102_1;have hw102_0:=hx102_0;cases e102
       replace hx102_0:=qU_ hx102_0;replace hx102_1:=qU_ hx102_1;replace hx102_2:=qU_ hx102_2;replace hx102_3:=qU_ hx102_3;replace hx102_4:=qU_ hx102_4;have HR102_4:=zA hi102_4;have HC102_4:=zA hl102_4;clear hi102_4 hl102_4;replace p102:=eq_true p102;replace q102:=eq_true q102;refine start_ (n:=10) (S:=fun w'=>w'.cell? (ad101.add ((x5_1).toNat * 5))=some (.int .i64 ((rd_T71 l0 x5_1).f0))∧w'.cell? ⟨(ad101.add ((x5_1).toNat * 5)).block,(ad101.add ((x5_1).toNat * 5)).off+1,none⟩=some (.int .i64 ((rd_T71 l0 x5_1).f1))∧w'.cell? ⟨(ad101.add ((x5_1).toNat * 5)).block,(ad101.add ((x5_1).toNat * 5)).off+2,none⟩=some (.int .i64 ((rd_T71 l0 x5_1).f2))∧w'.cell? ⟨(ad101.add ((x5_1).toNat * 5)).block,(ad101.add ((x5_1).toNat * 5)).off+3,none⟩=some (.int .i64 ((rd_T71 l0 x5_1).f3))∧w'.cell? ⟨(ad101.add ((x5_1).toNat * 5)).block,(ad101.add ((x5_1).toNat * 5)).off+4,none⟩=some (.slice A101_4 ((rd_T71 l0 x5_1).f4).length c101_4)∧w'.cell? (ad102.add ((x5_1).toNat * 5))=some (.int .i64 ((rd_T71 l1 x5_1).f0))∧w'.cell? ⟨(ad102.add ((x5_1).toNat * 5)).block,(ad102.add ((x5_1).toNat * 5)).off+1,none⟩=some (.int .i64 ((rd_T71 l1 x5_1).f1))∧w'.cell? ⟨(ad102.add ((x5_1).toNat * 5)).block,(ad102.add ((x5_1).toNat * 5)).off+2,none⟩=some (.int .i64 ((rd_T71 l1 x5_1).f2))∧w'.cell? ⟨(ad102.add ((x5_1).toNat * 5)).block,(ad102.add ((x5_1).toNat * 5)).off+3,none⟩=some (.int .i64 ((rd_T71 l1 x5_1).f3))∧w'.cell? ⟨(ad102.add ((x5_1).toNat * 5)).block,(ad102.add ((x5_1).toNat * 5)).off+4,none⟩=some (.slice A102_4 ((rd_T71 l1 x5_1).f4).length c102_4)) (ds:=[]) #[Z,Z,Z,Z,Z,Z,Z,Z,Z,Z] (by kernel_rfl) rfl rfl ⟨(qU_ hw101_0),(qU_ hw101_1),(qU_ hw101_2),(qU_ hw101_3),(qU_ hw101_4),(qU_ hw102_0),(qU_ hw102_1),(qU_ hw102_2),(qU_ hw102_3),(qU_ hw102_4)⟩ (fun hHeld=>?_);refine with_tabW aN.tab6 aN.bits6 (fun HT_ HW_=>?_);generalize wr.drew=w11 at HB HR101_4 HR102_4 hx101_0 hx101_1 hx101_2 hx101_3 hx101_4 hx102_0 hx102_1 hx102_2 hx102_3 hx102_4 hHeld⊢;refine pure_ (i:=0) (N:=some 17) #[I,Z,Z,Z,Z,Z,Z,Z,Z,Z] rfl rfl (any_of HT_.out (by kernel_rfl)) (fun _ _ _ h=>h) (Or.inl ⟨by rfl,qy⟩) qz ?_
       refine pure_ (i:=1) (N:=some 18) #[I,I,Z,Z,Z,Z,Z,Z,Z,Z] rfl rfl (any_of HT_.out (by kernel_rfl)) (fun _ _ _ h=>h) (Or.inl ⟨by rfl,qy⟩) qz ?_;refine pure_ (i:=2) (N:=some 19) #[I,I,I,Z,Z,Z,Z,Z,Z,Z] rfl rfl (any_of HT_.out (by kernel_rfl)) (fun _ _ _ h=>h) (Or.inl ⟨by rfl,qy⟩) qz ?_;refine pure_ (i:=4) (N:=some 21) #[I,I,I,Z,I,Z,Z,Z,Z,Z] rfl rfl (any_of HT_.out (by kernel_rfl)) (fun _ _ _ h=>h) (Or.inl ⟨by rfl,qy⟩) qz ?_;refine pure_ (i:=5) (N:=some 22) #[I,I,I,Z,I,I,Z,Z,Z,Z] rfl rfl (any_of HT_.out (by kernel_rfl)) (fun _ _ _ h=>h) (Or.inl ⟨by rfl,qy⟩) qz ?_;refine pure_ (i:=6) (N:=some 23) #[I,I,I,Z,I,I,I,Z,Z,Z] rfl rfl (any_of HT_.out (by kernel_rfl)) (fun _ _ _ h=>h) (Or.inl ⟨by rfl,qy⟩) qz ?_;refine take_ (i:=3) (N:=some 20) (v:=?_) (a':=?_) #[I,I,I,I,I,I,I,Z,Z,Z] rfl rfl (take_ofW HT_.out HW_.out (by kernel_rfl)) (fun _ _ _ h=>h) (Or.inl ⟨by rfl,?_⟩) hHeld ?_ ?_;rotate_left
       ·rintro w' ⟨s0,s1,s2,s3,s4,s5,s6,s7,s8,s9⟩
        go_simp;with_reducible rfl
       rotate_left
       ·simp only[Act.put,zH,zI,zJ,i64_w,i32_w]
        rfl
       refine take_ (i:=7) (N:=some 24) (v:=?_) (a':=?_) #[I,I,I,I,I,I,I,I,Z,Z] rfl rfl (take_ofW HT_.out HW_.out (by kernel_rfl)) (fun _ _ _ h=>h) (Or.inl ⟨by rfl,?_⟩) hHeld ?_ ?_;rotate_left
       ·rintro w' ⟨s0,s1,s2,s3,s4,s5,s6,s7,s8,s9⟩
        go_simp;with_reducible rfl
       rotate_left
       ·simp only[Act.put,zH,zI,zJ,i64_w,i32_w]
        rfl
       refine one_ (i:=8) (N:=some 25) #[I,I,I,I,I,I,I,I,I,Z] rfl rfl (one_of HT_.out (by kernel_rfl)) (by decide) (fun K hK=>?_);refine goes_ Try.func116 (by kernel_rfl) rfl #[.agg #[.int .i64 ((rd_T71 l0 x5_1).f0),.int .i64 ((rd_T71 l0 x5_1).f1),.int .i64 ((rd_T71 l0 x5_1).f2),.int .i64 ((rd_T71 l0 x5_1).f3),.slice A101_4 ((rd_T71 l0 x5_1).f4).length c101_4],.agg #[.int .i64 ((rd_T71 l1 x5_1).f0),.int .i64 ((rd_T71 l1 x5_1).f1),.int .i64 ((rd_T71 l1 x5_1).f2),.int .i64 ((rd_T71 l1 x5_1).f3),.slice A102_4 ((rd_T71 l1 x5_1).f4).length c102_4]] (by rfl) rfl rfl qG ?_;with_reducible refine(cA.calls k1 ((rd_T71 l0 x5_1).f0) ((rd_T71 l0 x5_1).f1) ((rd_T71 l0 x5_1).f2) ((rd_T71 l0 x5_1).f3) _ _ ((rd_T71 l0 x5_1).f4) ((rd_T71 l1 x5_1).f0) ((rd_T71 l1 x5_1).f1) ((rd_T71 l1 x5_1).f2) ((rd_T71 l1 x5_1).f3) _ _ ((rd_T71 l1 x5_1).f4) false _ ?side1 ?side2 ?side3 ?side4 A7.out).mono ?_
       (case side1=>exact qC (Kd.C_below HR101_4.out HB.out))
       (case side2=>exact HC101_4.out)
       (case side3=>exact qC (Kd.C_below HR102_4.out HB.out))
       (case side4=>exact HC102_4.out)
       rintro e w12 ⟨rfl,hb⟩;refine⟨_,rfl,?_⟩;replace HB:=zA (zV qB hb);(try clear hb);refine hK.out _ _ ⟨(qU_ hw101_0),(qU_ hw101_1),(qU_ hw101_2),(qU_ hw101_3),(qU_ hw101_4),(qU_ hw102_0),(qU_ hw102_1),(qU_ hw102_2),(qU_ hw102_3),(qU_ hw102_4)⟩ (fun hHeld=>?_);clear hK K;refine norm_ (a':=?_) ?_ ?_;rotate_left
       ·show Act.put _ (some 25) _=_
        simp only[Act.put,zH,zI,zJ,i64_w,i32_w];rfl
       refine pure_ (i:=9) (N:=some 26) #[I,I,I,I,I,I,I,I,I,I] rfl rfl (any_of HT_.out (by kernel_rfl)) (fun _ _ _ h=>h) (Or.inl ⟨by rfl,qy⟩) qz ?_;refine done_ (done_of HT_.out (by kernel_rfl)) ?_;try go_wp2
       go_ret;exact⟨qE,qB⟩
      rw[if_neg c6] at H;exact absurd H (by simp)
     rw[if_neg c5] at H;exact absurd H (by simp)
    rw[if_neg c4] at H;have c4b0:=zGq c4;clear c4;obtain rfl:=zKq H;go_wp2;go_ret;exact⟨qE,qB⟩
 rw[if_neg c3] at H
 have c3b0:((l0.length:Int)==(l1.length:Int))=false:=beq_eq_false_iff_ne.mpr c3
 have c3b1:((l0.length:Int) !=(l1.length:Int))=true:=bne_iff_ne.mpr c3
 have c3b2:(l0.length==l1.length)=false:=by first|simpa using c3|(simp at c3⊢;omega)
 obtain rfl:=zKq H
 go_enter Try.func64,Try.ntmps64
 go_wp2
 go_ret
 exact⟨qE,qB⟩
def cG.f (k:Nat) (a0_0:Int) (a0_1:Int) (l0_2:List (S71)) (a1_0:Int) (a1_1:Int) (l1_2:List (S71)):Option (Bool):=if a0_0=a1_0 then(if a0_1=a1_1 then((aN.f k l0_2 l1_2).bind fun t103=> (some t103))else(some false))else(some false)
theorem cG.mono: ∀ a0 a1 a2 a3 a4 a5 k,LeO (cG.f k a0 a1 a2 a3 a4 a5) (cG.f (k+1) a0 a1 a2 a3 a4 a5):=by
  intro a0 a1 a2 a3 a4 a5 k
  unfold cG.f
  repeat' (with_reducible first|exact aN.mono _ _ _|exact LeO.refl _|exact LeO.none _|refine LeO.ite ?_ ?_|refine LeO.bind ?_ (fun _=>?_))
theorem cG.calls (k:Nat) (a0_0:Int) (a0_1:Int) (A0_2:Option Addr) (c0_2:Nat) (l0_2:List (S71)) (a1_0:Int) (a1_1:Int) (A1_2:Option Addr) (c1_2:Nat) (l1_2:List (S71)) (r:Bool) (w:World) (hr0_2:Kd.C k71 w A0_2 l0_2.length l0_2) (hc0_2:l0_2.length≤c0_2) (hr1_2:Kd.C k71 w A1_2 l1_2.length l1_2) (hc1_2:l1_2.length≤c1_2) (h:cG.f k a0_0 a0_1 l0_2 a1_0 a1_1 l1_2=some r):
  Calls Try.prog 85 #[.agg #[.int .i64 a0_0,.int .i64 a0_1,.slice A0_2 l0_2.length c0_2],.agg #[.int .i64 a1_0,.int .i64 a1_1,.slice A1_2 l1_2.length c1_2]] w fun e w'=>e= .returned (.bool r)∧Below w.heap.size w w':=by
 have hu99:=Try.underlying99
 have HR0_2:=zA hr0_2
 have HC0_2:=zA hc0_2
 clear hr0_2 hc0_2
 have HR1_2:=zA hr1_2
 have HC1_2:=zA hc1_2
 clear hr1_2 hc1_2
 have HB:=zA (Below.refl w.heap.size w)
 have H:(if a0_0=a1_0 then(if a0_1=a1_1 then((aN.f k l0_2 l1_2).bind fun t103=> (some t103))else(some false))else(some false))=some r:=h
 clear h
 by_cases c3:a0_0=a1_0
 ·rw[if_pos c3] at H
  have c3b0:(a0_0==a1_0)=true:=beq_iff_eq.mpr c3;have c3b1:(a0_0 != a1_0)=false:=bne_eq_false_iff_eq.mpr c3;clear c3;by_cases c4:a0_1=a1_1
  ·rw[if_pos c4] at H
   have c4b0:(a0_1==a1_1)=true:=beq_iff_eq.mpr c4;have c4b1:(a0_1 != a1_1)=false:=bne_eq_false_iff_eq.mpr c4;clear c4;obtain⟨t103,A5,H⟩:=qD_ H;(try dsimp only at H);obtain rfl:=zKq H;go_enter Try.func85,Try.ntmps85;go_wp2_with (first|((with_reducible refine gate_dst (N:=2) rfl ?_);refine box_event qr (N:=2) qr (cs:= #[.int .i64 a0_0,.int .i64 a0_1,.slice A0_2 l0_2.length c0_2]) (t:=99) qg ?_;intro gb101 hg w6 hbox hb;have BK101:=zA (hbox);have GW101:=zA ((qS:w.heap.size≤gb101));have GE101:=zA ((qS:w.heap.size≤gb101));replace HB:=zA (zV qB hb);clear hb hbox hg)|((with_reducible refine gate_dst (N:=3) rfl ?_);refine box_event qr (N:=3) qr (cs:= #[.int .i64 a1_0,.int .i64 a1_1,.slice A1_2 l1_2.length c1_2]) (t:=99) qg ?_;intro gb102 hg w7 hbox hb;have BK102:=zA (hbox);have GW102:=zA ((qS:w.heap.size≤gb102));have GE102:=zA ((qS:w.heap.size≤gb102));replace HB:=zA (zV qB hb);have NB101_102:=zA ((by rw[hg];exact zLq (qL BK101.out):gb101≠gb102));have NB102_101:=zA ((by rw[hg];exact zMq (qL BK101.out):gb102≠gb101));replace BK101:=zA (qX BK101.out hb);clear hb hbox hg;have hnb8:=NB101_102.out;have hnc8:=NB102_101.out;obtain⟨_,_,_,_,_,_⟩:=qc3f BK101.out;obtain⟨_,_,_,_,_,_⟩:=qc3f BK102.out)|(go_at_call 64;(with_reducible refine(aN.calls k _ _ l0_2 _ _ l1_2 t103 _ ?side1 ?side2 ?side3 ?side4 A5.out).mono ?_);(case side1=>exact qC (Kd.C_below HR0_2.out HB.out));(case side2=>exact HC0_2.out);(case side3=>exact qC (Kd.C_below HR1_2.out HB.out));(case side4=>exact HC1_2.out);rintro e w11 ⟨rfl,hb⟩;replace BK101:=zA (qX BK101.out hb);replace BK102:=zA (qX BK102.out hb);replace HB:=zA (zV qB hb);(try clear hb)));go_ret;exact⟨qE,qB⟩
  rw[if_neg c4] at H;have c4b0:(a0_1==a1_1)=false:=beq_eq_false_iff_ne.mpr c4;have c4b1:(a0_1 != a1_1)=true:=bne_iff_ne.mpr c4;obtain rfl:=zKq H;go_enter Try.func85,Try.ntmps85;go_wp2_with (first|((with_reducible refine gate_dst (N:=2) rfl ?_);refine box_event qr (N:=2) qr (cs:= #[.int .i64 a0_0,.int .i64 a0_1,.slice A0_2 l0_2.length c0_2]) (t:=99) qg ?_;intro gb101 hg w12 hbox hb;have BK101:=zA (hbox);have GW101:=zA ((qS:w.heap.size≤gb101));have GE101:=zA ((qS:w.heap.size≤gb101));replace HB:=zA (zV qB hb);clear hb hbox hg)|((with_reducible refine gate_dst (N:=3) rfl ?_);refine box_event qr (N:=3) qr (cs:= #[.int .i64 a1_0,.int .i64 a1_1,.slice A1_2 l1_2.length c1_2]) (t:=99) qg ?_;intro gb102 hg w13 hbox hb;have BK102:=zA (hbox);have GW102:=zA ((qS:w.heap.size≤gb102));have GE102:=zA ((qS:w.heap.size≤gb102));replace HB:=zA (zV qB hb);have NB101_102:=zA ((by rw[hg];exact zLq (qL BK101.out):gb101≠gb102));have NB102_101:=zA ((by rw[hg];exact zMq (qL BK101.out):gb102≠gb101));replace BK101:=zA (qX BK101.out hb);clear hb hbox hg;have hnb14:=NB101_102.out;have hnc14:=NB102_101.out;obtain⟨_,_,_,_,_,_⟩:=qc3f BK101.out;obtain⟨_,_,_,_,_,_⟩:=qc3f BK102.out));go_ret;exact⟨qE,qB⟩
 rw[if_neg c3] at H
 have c3b0:(a0_0==a1_0)=false:=beq_eq_false_iff_ne.mpr c3
 have c3b1:(a0_0 != a1_0)=true:=bne_iff_ne.mpr c3
 obtain rfl:=zKq H
 go_enter Try.func85,Try.ntmps85
 go_wp2_with (first|((with_reducible refine gate_dst (N:=2) rfl ?_);refine box_event qr (N:=2) qr (cs:= #[.int .i64 a0_0,.int .i64 a0_1,.slice A0_2 l0_2.length c0_2]) (t:=99) qg ?_;intro gb101 hg w17 hbox hb;have BK101:=zA (hbox);have GW101:=zA ((qS:w.heap.size≤gb101));have GE101:=zA ((qS:w.heap.size≤gb101));replace HB:=zA (zV qB hb);clear hb hbox hg)|((with_reducible refine gate_dst (N:=3) rfl ?_);refine box_event qr (N:=3) qr (cs:= #[.int .i64 a1_0,.int .i64 a1_1,.slice A1_2 l1_2.length c1_2]) (t:=99) qg ?_;intro gb102 hg w18 hbox hb;have BK102:=zA (hbox);have GW102:=zA ((qS:w.heap.size≤gb102));have GE102:=zA ((qS:w.heap.size≤gb102));replace HB:=zA (zV qB hb);have NB101_102:=zA ((by rw[hg];exact zLq (qL BK101.out):gb101≠gb102));have NB102_101:=zA ((by rw[hg];exact zMq (qL BK101.out):gb102≠gb101));replace BK101:=zA (qX BK101.out hb);clear hb hbox hg;have hnb19:=NB101_102.out;have hnc19:=NB102_101.out;obtain⟨_,_,_,_,_,_⟩:=qc3f BK101.out;obtain⟨_,_,_,_,_,_⟩:=qc3f BK102.out))
 go_ret
 exact⟨qE,qB⟩
end Go.Proofs.Ytefhljhpcpajgaa.F
