-- by prune.py (own program),out of the print
import Derived.Test.YtdpcgigjlcpofaaProg
import Derived.Below
import Derived.Deep.Draws
import Derived.Deep.AppendLies
import Derived.Maps.AppendAt
import Derived.OwnWalk
import Derived.Laws.BytesArg
import Derived.Laws.MakeOwn
import Derived.Laws.OwnMore
import Derived.Deep.OwnRows
import Derived.Tactics
import Derived.Lib.ConvBytes
import Derived.Laws.Slices
import Derived.WalkKit
import Derived.KernelRfl
import Derived.RowKit3
import Derived.Deep.LoopGhost
import Derived.Deep.QuietTactic
import Derived.BigQuiet
import Derived.WideLaws
import Derived.Deep.DeepCutAuto
import Derived.Deep.CutBlock
import Derived.Deep.RegionHeld3
import Derived.Laws.Rows
import Derived.Lib.AppendStr
import Derived.ArgAppend
import Derived.Laws.IdiomCopy
import Derived.OrdersHeld
import Derived.Laws.BitsLemmas
import Derived.RowKit
import Derived.Laws.StructEq
import Derived.Deep.RegionLawGrows
import Derived.Lib.SliceRun
import Derived.Shelf.Strings.BuilderK
import Derived.Shelf.Strings.Builder1
import Derived.Shelf.Strings.BuilderF
import Derived.Shelf.Utf8.RuneCount
import Derived.Shelf.Strings.Prefix
import Derived.Test.YtdpcgigjlcpofaaZBatchCodes2
set_option maxHeartbeats 8000000
set_option maxRecDepth 100000
namespace Go.Proofs.Ytdpcgigjlcpofaa.F
open Go.RowKit Go.Proofs.YtdpcgigjlcpofaaX Go.Proofs.YtdpcgigjlcpofaaW.PrintWords Go.Proofs.YtdpcgigjlcpofaaW.PrintLast Go.Proofs.YtdpcgigjlcpofaaW.PrintMore
attribute [local go_sem] max2_int min2_int max_two min_two max_three min_three max_four min_four
attribute [local go_sem high] str_geq str_leq str_gtr
set_option linter.unusedVariables false
set_option linter.unusedSimpArgs false
attribute [local go_sem high] eqA169
mutual
def aV.j0:Nat→Bool→Int→List (S169)→Int→List (S169)→Option (Bool)
  |0,_,_,_,_,_=>none
  |k+1,x19,x102000,x102001,x103000,x103001=>if x19=true then(some false)else(aV.l0 k 0 x102000 x102001 x103000 x103001)
def aV.l0:Nat→Int→Int→List (S169)→Int→List (S169)→Option (Bool)
  |0,_,_,_,_,_=>none
  |k+1,x5,x102000,x102001,x103000,x103001=>if x5 < (x102001.length:Int)then(if 0≤x5 then(if x5 < (x103001.length:Int)then(if(!(((rd_T169 x102001 x5).f0)==((rd_T169 x103001 x5).f0))||(!(((rd_T169 x102001 x5).f1)==((rd_T169 x103001 x5).f1))||(!((((rd_T169 x102001 x5).f2).toList)==(((rd_T169 x103001 x5).f2).toList)))))=true then(some false)else(aV.l0 k (wrap64 (x5+1)) x102000 x102001 x103000 x103001))else(none))else(none))else(some true)
end
def aV.f (k:Nat) (a0_0:Int) (l0_1:List (S169)) (a1_0:Int) (l1_1:List (S169)):Option (Bool):=if a0_0=a1_0 then(aV.j0 k ((l0_1.length:Int) !=(l1_1.length:Int)) a0_0 l0_1 a1_0 l1_1)else(aV.j0 k true a0_0 l0_1 a1_0 l1_1)
theorem aV.mono_l: ∀ k,(∀ y0 y1 y2 y3 y4,LeO (aV.j0 k y0 y1 y2 y3 y4) (aV.j0 (k+1) y0 y1 y2 y3 y4))∧(∀ y0 y1 y2 y3 y4,LeO (aV.l0 k y0 y1 y2 y3 y4) (aV.l0 (k+1) y0 y1 y2 y3 y4))
  |0=> ⟨fun _ _ _ _ _ r h=>by simp[aV.j0] at h,fun _ _ _ _ _ r h=>by simp[aV.l0] at h⟩
  |k+1=>by
    obtain⟨ih0,ih1⟩:=aV.mono_l k
    refine⟨?_,?_⟩
    · intro y0 y1 y2 y3 y4
      unfold aV.j0
      repeat' (with_reducible first|exact ih0 _ _ _ _ _|exact ih1 _ _ _ _ _|exact LeO.refl _|exact LeO.none _|refine LeO.ite ?_ ?_|refine LeO.bind ?_ (fun _=>?_))
    intro y0 y1 y2 y3 y4
    unfold aV.l0
    repeat' (with_reducible first|exact ih0 _ _ _ _ _|exact ih1 _ _ _ _ _|exact LeO.refl _|exact LeO.none _|refine LeO.ite ?_ ?_|refine LeO.bind ?_ (fun _=>?_))
theorem aV.mono: ∀ a0 a1 a2 a3 k,LeO (aV.f k a0 a1 a2 a3) (aV.f (k+1) a0 a1 a2 a3):=by
  intro a0 a1 a2 a3 k
  obtain⟨ih0,ih1⟩:=aV.mono_l k
  unfold aV.f
  repeat' (with_reducible first|exact ih0 _ _ _ _ _|exact ih1 _ _ _ _ _|exact LeO.refl _|exact LeO.none _|refine LeO.ite ?_ ?_|refine LeO.bind ?_ (fun _=>?_))
theorem aV.calls (k:Nat) (a0_0:Int) (A0_1:Option Addr) (c0_1:Nat) (l0_1:List (S169)) (a1_0:Int) (A1_1:Option Addr) (c1_1:Nat) (l1_1:List (S169)) (r:Bool) (w:World) (hr0_1:Kd.C k169 w A0_1 l0_1.length l0_1) (hc0_1:l0_1.length≤c0_1) (hr1_1:Kd.C k169 w A1_1 l1_1.length l1_1) (hc1_1:l1_1.length≤c1_1) (h:aV.f k a0_0 l0_1 a1_0 l1_1=some r):
  Calls Try.prog 108 #[.agg #[.int .i64 a0_0,.slice A0_1 l0_1.length c0_1],.agg #[.int .i64 a1_0,.slice A1_1 l1_1.length c1_1]] w fun e w'=>e= .returned (.bool r)∧Below w.heap.size w w':=by
 have hu82:=Try.underlying82
 have hu169:=Try.underlying169
 have HR0_1:=zA hr0_1
 have HC0_1:=zA hc0_1
 clear hr0_1 hc0_1
 have HR1_1:=zA hr1_1
 have HC1_1:=zA hc1_1
 clear hr1_1 hc1_1
 have HB:=zA (Below.refl w.heap.size w)
 have H:(if a0_0=a1_0 then(aV.j0 k ((l0_1.length:Int) !=(l1_1.length:Int)) a0_0 l0_1 a1_0 l1_1)else(aV.j0 k true a0_0 l0_1 a1_0 l1_1))=some r:=h
 clear h
 have HC3:=zA H
 clear H
 go_enter Try.func108,Try.ntmps108
 go_upto_region 1 with(first|((with_reducible refine gate_dst (N:=2) rfl ?_);(try(refine gate_guard (by rfl) ?_;dsimp only));refine box_event qr (N:=2) qr (cs:= #[.int .i64 a0_0,.slice A0_1 l0_1.length c0_1]) (t:=82) qg ?_;intro gb101 hg w4 hbox hb;have BK101:=zA (hbox);have GW101:=zA ((qS:w.heap.size≤gb101));have GE101:=zA ((qS:w.heap.size≤gb101));replace HB:=zA (zV qB hb);clear hb hbox hg)|((with_reducible refine gate_dst (N:=3) rfl ?_);(try(refine gate_guard (by rfl) ?_;dsimp only));refine box_event qr (N:=3) qr (cs:= #[.int .i64 a1_0,.slice A1_1 l1_1.length c1_1]) (t:=82) qg ?_;intro gb102 hg w5 hbox hb;have BK102:=zA (hbox);have GW102:=zA ((qS:w.heap.size≤gb102));have GE102:=zA ((qS:w.heap.size≤gb102));replace HB:=zA (zV qB hb);have NB101_102:=zA ((by rw[hg];exact zLq (qL BK101.out):gb101≠gb102));have NB102_101:=zA ((by rw[hg];exact zMq (qL BK101.out):gb102≠gb101));replace BK101:=zA (qX BK101.out hb);clear hb hbox hg))
 repeat(go_quiet (first|((with_reducible refine gate_dst (N:=2) rfl ?_);(try(refine gate_guard (by rfl) ?_;dsimp only));refine box_event qr (N:=2) qr (cs:= #[.int .i64 a0_0,.slice A0_1 l0_1.length c0_1]) (t:=82) qg ?_;intro gb101 hg w4 hbox hb;have BK101:=zA (hbox);have GW101:=zA ((qS:w.heap.size≤gb101));have GE101:=zA ((qS:w.heap.size≤gb101));replace HB:=zA (zV qB hb);clear hb hbox hg)|((with_reducible refine gate_dst (N:=3) rfl ?_);(try(refine gate_guard (by rfl) ?_;dsimp only));refine box_event qr (N:=3) qr (cs:= #[.int .i64 a1_0,.slice A1_1 l1_1.length c1_1]) (t:=82) qg ?_;intro gb102 hg w5 hbox hb;have BK102:=zA (hbox);have GW102:=zA ((qS:w.heap.size≤gb102));have GE102:=zA ((qS:w.heap.size≤gb102));replace HB:=zA (zV qB hb);have NB101_102:=zA ((by rw[hg];exact zLq (qL BK101.out):gb101≠gb102));have NB102_101:=zA ((by rw[hg];exact zMq (qL BK101.out):gb102≠gb101));replace BK101:=zA (qX BK101.out hb);clear hb hbox hg));go_upto_region 1 with(first|((with_reducible refine gate_dst (N:=2) rfl ?_);(try(refine gate_guard (by rfl) ?_;dsimp only));refine box_event qr (N:=2) qr (cs:= #[.int .i64 a0_0,.slice A0_1 l0_1.length c0_1]) (t:=82) qg ?_;intro gb101 hg w4 hbox hb;have BK101:=zA (hbox);have GW101:=zA ((qS:w.heap.size≤gb101));have GE101:=zA ((qS:w.heap.size≤gb101));replace HB:=zA (zV qB hb);clear hb hbox hg)|((with_reducible refine gate_dst (N:=3) rfl ?_);(try(refine gate_guard (by rfl) ?_;dsimp only));refine box_event qr (N:=3) qr (cs:= #[.int .i64 a1_0,.slice A1_1 l1_1.length c1_1]) (t:=82) qg ?_;intro gb102 hg w5 hbox hb;have BK102:=zA (hbox);have GW102:=zA ((qS:w.heap.size≤gb102));have GE102:=zA ((qS:w.heap.size≤gb102));replace HB:=zA (zV qB hb);have NB101_102:=zA ((by rw[hg];exact zLq (qL BK101.out):gb101≠gb102));have NB102_101:=zA ((by rw[hg];exact zMq (qL BK101.out):gb102≠gb101));replace BK101:=zA (qX BK101.out hb);clear hb hbox hg)))
 (try simp only[Act.put,zH,zI,zJ])
 go_cut[19] (fun v19 wc=> ∃ (kq:Nat) (x19_2:Bool),v19= .bool x19_2∧Aside0 (aV.j0 kq x19_2 a0_0 l0_1 a1_0 l1_1=some r)∧Aside0 (kq≤k)∧Aside0 (wc.heap[gb101]? =some (.cells #[.int .i64 a0_0,(.slice A0_1 l0_1.length c0_1)] 82 (0,0)))∧Aside0 (wc.heap[gb102]? =some (.cells #[.int .i64 a1_0,(.slice A1_1 l1_1.length c1_1)] 82 (0,0)))∧Aside0 (Below w.heap.size w wc))
 case first=>
  have H:=HC3.out;clear HC3;by_cases c6:a0_0=a1_0
  ·rw[if_pos c6] at H
   have c6b0:(a0_0==a1_0)=true:=beq_iff_eq.mpr c6;have c6b1:(a0_0 != a1_0)=false:=bne_eq_false_iff_eq.mpr c6;clear c6;(first|rw[c6b0] |(simp only[i64_w,i32_w];rw[c6b0])|skip)
   have H':=zA H;clear H;have hnb7:=NB101_102.out;have hnc7:=NB102_101.out;obtain⟨_,_,_,_⟩:=qc2f BK101.out;obtain⟨_,_,_,_⟩:=qc2f BK102.out;go_wp2;repeat(go_quiet (fail);try go_wp2)
   go_meet
   case rel=>exact⟨_,(((l0_1.length:Int) !=(l1_1.length:Int))),qF_,H',⟨by first|omega|exact Nat.le_refl _⟩,⟨by exact BK101.out⟩,⟨by exact BK102.out⟩,⟨qB⟩⟩
  rw[if_neg c6] at H;have c6b0:(a0_0==a1_0)=false:=beq_eq_false_iff_ne.mpr c6;have c6b1:(a0_0 != a1_0)=true:=bne_iff_ne.mpr c6;(first|rw[c6b0] |(simp only[i64_w,i32_w];rw[c6b0])|skip)
  have H':=zA H;clear H;have hnb10:=NB101_102.out;have hnc10:=NB102_101.out;obtain⟨_,_,_,_⟩:=qc2f BK101.out;obtain⟨_,_,_,_⟩:=qc2f BK102.out;go_wp2;repeat(go_quiet (fail);try go_wp2)
  go_meet
  case rel=>exact⟨_,(true),qF_,H',⟨by first|omega|exact Nat.le_refl _⟩,⟨by exact BK101.out⟩,⟨by exact BK102.out⟩,⟨qB⟩⟩
 case rest=>
  clear HC3;try clear c1
  try clear p2
  try clear c6
  try clear c6b0
  try clear c6b1
  try clear c7
  try clear c10
  obtain⟨kq,x19_2,rfl,HA,HJ2,BK101,BK102,HB⟩:=hcut;cases kq with
  |zero=>exact absurd HA.out (by simp[aV.j0])
  |succ kj2=>
   have H:=HA.out;clear HA;simp only[aV.j0] at H;by_cases c13:x19_2=true
   ·subst c13
    have H1:(some false)=some r:=by first|(rw[if_pos rfl] at H;exact H)|rfl
    clear H;have H:=H1;clear H1;obtain rfl:=zKq H;go_wp2;repeat(go_quiet (fail);try go_wp2)
    go_ret;exact⟨qE,qB⟩
   replace c13:=Bool.eq_false_iff.mpr c13;subst c13;have H1:(aV.l0 kj2 0 a0_0 l0_1 a1_0 l1_1)=some r:=by first|(rw[if_neg (show ¬ (false=true) by decide)] at H;exact H)|rfl
   clear H;have H:=H1;clear H1;have H':=zA H;clear H;go_wp2;repeat(go_quiet (fail);try go_wp2)
   go_loopg[5] kj2 (fun kq v5 w'=> ∃ (x5_2:Int),v5= .int .i64 x5_2∧Aside0 (aV.l0 kq x5_2 a0_0 l0_1 a1_0 l1_1=some r)∧Aside0 (kq≤kj2)∧Aside0 (w'.heap[gb101]? =some (.cells #[.int .i64 a0_0,(.slice A0_1 l0_1.length c0_1)] 82 (0,0)))∧Aside0 (w'.heap[gb102]? =some (.cells #[.int .i64 a1_0,(.slice A1_1 l1_1.length c1_1)] 82 (0,0)))∧Aside0 (Below w.heap.size w w'))
   case atStart=>exact⟨(0),qF_,H',⟨Nat.le_refl _⟩,⟨by exact BK101.out⟩,⟨by exact BK102.out⟩,⟨qB⟩⟩
   case round=>
    clear H';try clear c1
    try clear p2
    try clear c6
    try clear c6b0
    try clear c6b1
    try clear c7
    try clear c10
    try clear c13
    try clear p2
    obtain⟨x5_2,rfl,HA,HK2,BK101,BK102,HB⟩:=hrel;cases gk with
    |zero=>exact absurd HA.out (by simp[aV.l0])
    |succ k2=>
     have H:=HA.out;clear HA;simp only[aV.l0] at H;by_cases c14:x5_2 < (l0_1.length:Int)
     ·rw[if_pos c14] at H
      have c14b0:=zFq c14;clear c14;by_cases c15:0≤x5_2
      ·rw[if_pos c15] at H
       have c15b0:=zFq c15;clear c15;by_cases c16:x5_2 < (l1_1.length:Int)
       ·rw[if_pos c16] at H
        have c16b0:=zFq c16;clear c16;by_cases c17:(!(((rd_T169 l0_1 x5_2).f0)==((rd_T169 l1_1 x5_2).f0))||(!(((rd_T169 l0_1 x5_2).f1)==((rd_T169 l1_1 x5_2).f1))||(!((((rd_T169 l0_1 x5_2).f2).toList)==(((rd_T169 l1_1 x5_2).f2).toList)))))=true
        ·rw[if_pos c17] at H
         have c17b0:(!(((rd_T169 l0_1 x5_2).f0)==((rd_T169 l1_1 x5_2).f0))||(!(((rd_T169 l0_1 x5_2).f1)==((rd_T169 l1_1 x5_2).f1))||(!((((rd_T169 l0_1 x5_2).f2).toList)==(((rd_T169 l1_1 x5_2).f2).toList)))))=true:=c17;clear c17;obtain rfl:=zKq H;have hnb18:=NB101_102.out;have hnc18:=NB102_101.out;obtain⟨_,_,_,_⟩:=qc2f BK101.out;have p103:0≤(x5_2:Int):=qO_;have q103:x5_2 < (l0_1.length:Int):=qO_;obtain⟨ad103,e103,hx103_0,hx103_1,hx103_2⟩:=at_T169 HR0_1.out x5_2 p103 q103;cases e103
         replace hx103_0:=qU_ hx103_0;replace hx103_1:=qU_ hx103_1;replace hx103_2:=qU_ hx103_2;replace p103:=eq_true p103;replace q103:=eq_true q103;obtain⟨_,_,_,_⟩:=qc2f BK102.out;have p104:0≤(x5_2:Int):=qO_;have q104:x5_2 < (l1_1.length:Int):=qO_;obtain⟨ad104,e104,hx104_0,hx104_1,hx104_2⟩:=at_T169 HR1_1.out x5_2 p104 q104;cases e104
         replace hx104_0:=qU_ hx104_0;replace hx104_1:=qU_ hx104_1;replace hx104_2:=qU_ hx104_2;replace p104:=eq_true p104;replace q104:=eq_true q104;go_wp2;repeat(go_quiet (fail);try go_wp2)
         go_ret;exact⟨qE,qB⟩
        rw[if_neg c17] at H;have c17b0:(!(((rd_T169 l0_1 x5_2).f0)==((rd_T169 l1_1 x5_2).f0))||(!(((rd_T169 l0_1 x5_2).f1)==((rd_T169 l1_1 x5_2).f1))||(!((((rd_T169 l0_1 x5_2).f2).toList)==(((rd_T169 l1_1 x5_2).f2).toList)))))=false:=by simpa using c17
        clear c17;have H':=zA H;clear H;have hnb21:=NB101_102.out;have hnc21:=NB102_101.out;obtain⟨_,_,_,_⟩:=qc2f BK101.out;have p103:0≤(x5_2:Int):=qO_;have q103:x5_2 < (l0_1.length:Int):=qO_;obtain⟨ad103,e103,hx103_0,hx103_1,hx103_2⟩:=at_T169 HR0_1.out x5_2 p103 q103;cases e103
        replace hx103_0:=qU_ hx103_0;replace hx103_1:=qU_ hx103_1;replace hx103_2:=qU_ hx103_2;replace p103:=eq_true p103;replace q103:=eq_true q103;obtain⟨_,_,_,_⟩:=qc2f BK102.out;have p104:0≤(x5_2:Int):=qO_;have q104:x5_2 < (l1_1.length:Int):=qO_;obtain⟨ad104,e104,hx104_0,hx104_1,hx104_2⟩:=at_T169 HR1_1.out x5_2 p104 q104;cases e104
        replace hx104_0:=qU_ hx104_0;replace hx104_1:=qU_ hx104_1;replace hx104_2:=qU_ hx104_2;replace p104:=eq_true p104;replace q104:=eq_true q104;go_wp2;repeat(go_quiet (fail);try go_wp2)
        go_roundg k2
        case measure=>have:=HJ2.out;have:=HK2.out;omega
        case rel=>exact⟨(wrap64 (x5_2+1)),qF_,H',⟨by have:=HJ2.out;have:=HK2.out;omega⟩,⟨by exact BK101.out⟩,⟨by exact BK102.out⟩,⟨qB⟩⟩
       rw[if_neg c16] at H;exact absurd H (by simp)
      rw[if_neg c15] at H;exact absurd H (by simp)
     rw[if_neg c14] at H;have c14b0:=zGq c14;clear c14;obtain rfl:=zKq H;have hnb24:=NB101_102.out;have hnc24:=NB102_101.out;obtain⟨_,_,_,_⟩:=qc2f BK101.out;go_wp2;repeat(go_quiet (fail);try go_wp2)
     go_ret;exact⟨qE,qB⟩
end Go.Proofs.Ytdpcgigjlcpofaa.F
namespace Go.Proofs.Ytdpcgigjlcpofaa.F
open Go.RowKit Go.Proofs.YtdpcgigjlcpofaaX Go.Proofs.YtdpcgigjlcpofaaW.PrintWords Go.Proofs.YtdpcgigjlcpofaaW.PrintLast Go.Proofs.YtdpcgigjlcpofaaW.PrintMore
attribute [local go_sem] max2_int min2_int max_two min_two max_three min_three max_four min_four
attribute [local go_sem high] str_geq str_leq str_gtr
set_option linter.unusedVariables false
set_option linter.unusedSimpArgs false
def bU.f (k:Nat) (l0_0:List (List (S164))) (a1_0:Int) (l1_1:List (S169)):Option (Bool):=(aI.f k l0_0).bind fun bt103=> ((aV.f k bt103.1 bt103.2 a1_0 l1_1).bind fun t107=> (some t107))
theorem bU.mono: ∀ a0 a1 a2 k,LeO (bU.f k a0 a1 a2) (bU.f (k+1) a0 a1 a2):=by
  intro a0 a1 a2 k
  unfold bU.f
  repeat' (with_reducible first|exact aI.mono _ _|exact aV.mono _ _ _ _ _|exact LeO.refl _|exact LeO.none _|refine LeO.ite ?_ ?_|refine LeO.bind ?_ (fun _=>?_))
theorem bU.calls (k:Nat) (A0_0:Option Addr) (c0_0:Nat) (l0_0:List (List (S164))) (a1_0:Int) (A1_1:Option Addr) (c1_1:Nat) (l1_1:List (S169)) (r:Bool) (w:World) (hr0_0:Kd.C (Kd.slice 164 k164) w A0_0 l0_0.length l0_0) (hc0_0:l0_0.length≤c0_0) (hr1_1:Kd.C k169 w A1_1 l1_1.length l1_1) (hc1_1:l1_1.length≤c1_1) (h:bU.f k l0_0 a1_0 l1_1=some r):
  Calls Try.prog 54 #[.agg #[.slice A0_0 l0_0.length c0_0],.agg #[.int .i64 a1_0,.slice A1_1 l1_1.length c1_1]] w fun e w'=>e= .returned (.bool r)∧Below w.heap.size w w':=by
 have hu75:=Try.underlying75
 have hu82:=Try.underlying82
 have HR0_0:=zA hr0_0
 have HC0_0:=zA hc0_0
 clear hr0_0 hc0_0
 have HR1_1:=zA hr1_1
 have HC1_1:=zA hc1_1
 clear hr1_1 hc1_1
 have HB:=zA (Below.refl w.heap.size w)
 have H:((aI.f k l0_0).bind fun bt103=> ((aV.f k bt103.1 bt103.2 a1_0 l1_1).bind fun t107=> (some t107)))=some r:=h
 clear h
 obtain⟨⟨t103,t104⟩,A3,H⟩:=qD_ H
 (try dsimp only at H)
 obtain⟨t107,A4,H⟩:=qD_ H
 (try dsimp only at H)
 obtain rfl:=zKq H
 go_enter Try.func54,Try.ntmps54
 try go_wp2_with (first|((with_reducible refine gate_dst (N:=2) rfl ?_);refine box_event qr (N:=2) qr (cs:= #[.slice A0_0 l0_0.length c0_0]) (t:=75) qg ?_;intro gb101 hg w5 hbox hb;have BK101:=zA (hbox);have GW101:=zA ((qS:w.heap.size≤gb101));have GE101:=zA ((qS:w.heap.size≤gb101));replace HB:=zA (zV qB hb);clear hb hbox hg)|((with_reducible refine gate_dst (N:=3) rfl ?_);refine box_event qr (N:=3) qr (cs:= #[.int .i64 a1_0,.slice A1_1 l1_1.length c1_1]) (t:=82) qg ?_;intro gb102 hg w6 hbox hb;have BK102:=zA (hbox);have GW102:=zA ((qS:w.heap.size≤gb102));have GE102:=zA ((qS:w.heap.size≤gb102));replace HB:=zA (zV qB hb);have NB101_102:=zA ((by rw[hg];exact zLq (qL BK101.out):gb101≠gb102));have NB102_101:=zA ((by rw[hg];exact zMq (qL BK101.out):gb102≠gb101));replace BK101:=zA (qX BK101.out hb);clear hb hbox hg))
 replace BK101:=zA (zAq BK101.out);replace BK102:=zA (zAq BK102.out);replace HB:=zA (zC HB.out)
 refine start_ (n:=5) (S:=fun w'=>w'.cell? ⟨gb101,0,none⟩=some (.slice A0_0 l0_0.length c0_0)∧w'.cell? ⟨gb102,0,none⟩=some (.int .i64 a1_0)∧w'.cell? ⟨gb102,1,none⟩=some (.slice A1_1 l1_1.length c1_1)) (ds:=[]) #[false,false,false,false,false] (by kernel_rfl) rfl rfl ⟨(zF BK101.out 0).trans rfl,(zF BK102.out 0).trans rfl,(zF BK102.out 1).trans rfl⟩ (fun hHeld=>?_)
 generalize w6.drew=w7 at BK101 BK102 HB hHeld⊢
 refine take_ (i:=0) (N:=some 5) (v:=?_) (a':=?_) #[true,false,false,false,false] rfl rfl (by kernel_rfl) (fun _ _ _ h=>h) (Or.inl ⟨by rfl,?_⟩) hHeld ?_ ?_
 rotate_left
 ·rintro w' ⟨s0,s1,s2⟩
  go_simp;with_reducible rfl
 rotate_left
 ·simp only[Act.put,zH,zI,zJ,i64_w,i32_w]
  rfl
 refine take_ (i:=2) (N:=some 7) (v:=?_) (a':=?_) #[true,false,true,false,false] rfl rfl (by kernel_rfl) (fun _ _ _ h=>h) (Or.inl ⟨by rfl,?_⟩) hHeld ?_ ?_
 rotate_left
 ·rintro w' ⟨s0,s1,s2⟩
  go_simp;with_reducible rfl
 rotate_left
 ·simp only[Act.put,zH,zI,zJ,i64_w,i32_w]
  rfl
 refine one_ (i:=1) (N:=some 6) #[true,true,true,false,false] rfl rfl (by kernel_rfl) (by decide) (fun K hK=>?_)
 refine goes_ Try.func44 (by kernel_rfl) rfl #[.agg #[.slice A0_0 l0_0.length c0_0]] (by rfl) rfl rfl qG ?_
 with_reducible refine(aI.calls k _ _ l0_0 t103 t104 _ ?side1 ?side2 A3.out).mono ?_
 (case side1=>exact qC (Kd.C_below HR0_0.out HB.out))
 (case side2=>exact HC0_0.out)
 rintro e w8 ⟨v105,rfl,ho0,hb⟩
 refine⟨_,rfl,?_⟩
 have HO106:=zA (Kd.R_lower ho0 (zW qB));replace BK101:=zA (qX BK101.out hb);replace BK102:=zA (qX BK102.out hb);replace HB:=zA (zV qB hb);(try clear hb);(try clear ho0)
 obtain⟨Ao9,co9,eo9⟩:=Kd.R_slice HO106.out
 (first|subst eo9|(injection eo9 with f1_ f2_ f3_;have f4_:=f1_.symm;have f5_:=f3_.symm;clear f1_ f2_ f3_;subst f4_;subst f5_))
 refine hK.out _ _ ⟨(zF BK101.out 0).trans rfl,(zF BK102.out 0).trans rfl,(zF BK102.out 1).trans rfl⟩ (fun hHeld=>?_)
 clear hK K
 refine norm_ (a':=?_) ?_ ?_
 rotate_left
 ·show Act.put _ (some 6) _=_
  simp only[Act.put,zH,zI,zJ,i64_w,i32_w];rfl
 refine one_ (i:=3) (N:=some 8) #[true,true,true,true,false] rfl rfl (by kernel_rfl) (by decide) (fun K hK=>?_)
 refine goes_ Try.func108 (by kernel_rfl) rfl #[.agg #[.int .i64 t103,.slice Ao9 t104.length co9],.agg #[.int .i64 a1_0,.slice A1_1 l1_1.length c1_1]] (by rfl) rfl rfl qG ?_
 with_reducible refine(aV.calls k t103 _ _ t104 a1_0 _ _ l1_1 t107 _ ?side1 ?side2 ?side3 ?side4 A4.out).mono ?_
 (case side1=>repeat(first|exact(Kd.R_reads' HO106.out).2.2|(with_reducible refine Kd.C_alloc ?_ _)|(with_reducible refine Kd.C_drewN ?_ _)|(with_reducible refine Kd.C_drew ?_)))
 (case side2=>exact(Kd.R_reads' HO106.out).2.1)
 (case side3=>exact qC (Kd.C_below HR1_1.out HB.out))
 (case side4=>exact HC1_1.out)
 rintro e w10 ⟨rfl,hb⟩
 refine⟨_,rfl,?_⟩
 replace HO106:=zA (Kd.R_below (qR_ HO106.out) hb);replace BK101:=zA (qX BK101.out hb);replace BK102:=zA (qX BK102.out hb);replace HB:=zA (zV qB hb);(try clear hb)
 refine hK.out _ _ ⟨(zF BK101.out 0).trans rfl,(zF BK102.out 0).trans rfl,(zF BK102.out 1).trans rfl⟩ (fun hHeld=>?_)
 clear hK K
 refine norm_ (a':=?_) ?_ ?_
 rotate_left
 ·show Act.put _ (some 8) _=_
  simp only[Act.put,zH,zI,zJ,i64_w,i32_w];rfl
 refine pure_ (i:=4) (N:=some 4) (v:=?_) (a':=?_) #[true,true,true,true,true] rfl rfl (by kernel_rfl) (fun _ _ _ h=>h) (Or.inl ⟨by rfl,?_⟩) ?_ ?_
 rotate_left
 ·intro w'
  go_simp;with_reducible rfl
 rotate_left
 ·simp only[Act.put,zH,zI,zJ,i64_w,i32_w]
  rfl
 refine done_ (by kernel_rfl) ?_
 try go_wp2
 go_ret
 exact⟨qE,qB⟩
end Go.Proofs.Ytdpcgigjlcpofaa.F
namespace Go.Proofs.Ytdpcgigjlcpofaa.F
open Go.RowKit Go.Proofs.YtdpcgigjlcpofaaX Go.Proofs.YtdpcgigjlcpofaaW.PrintWords Go.Proofs.YtdpcgigjlcpofaaW.PrintLast Go.Proofs.YtdpcgigjlcpofaaW.PrintMore
attribute [local go_sem] max2_int min2_int max_two min_two max_three min_three max_four min_four
attribute [local go_sem high] str_geq str_leq str_gtr
set_option linter.unusedVariables false
set_option linter.unusedSimpArgs false
def cN.f (a0:Int):Option (Bool):=if a0=1 then(some true)else(if a0=2 then(some true)else(if a0=4 then(some true)else(some (a0==8))))
theorem cN.calls (a0:Int) (r:Bool) (w:World) (h:cN.f a0=some r):
  Calls Try.prog 121 #[.int .i64 a0] w fun e w'=>e= .returned (.bool r)∧Drawn0 w w':=by
 have H:(if a0=1 then(some true)else(if a0=2 then(some true)else(if a0=4 then(some true)else(some (a0==8)))))=some r:=h
 clear h
 by_cases c2:a0=1
 ·rw[if_pos c2] at H
  have c2b0:(a0==1)=true:=beq_iff_eq.mpr c2;have c2b1:(a0 != 1)=false:=bne_eq_false_iff_eq.mpr c2;clear c2;obtain rfl:=zKq H;go_enter Try.func121,Try.ntmps121;go_wp2;go_ret;exact⟨by first|rfl|(simp;done)|(simp[*];done),by repeat(first|exact Drawn0.refl _|apply Drawn0.step)⟩
 rw[if_neg c2] at H
 have c2b0:(a0==1)=false:=beq_eq_false_iff_ne.mpr c2
 have c2b1:(a0 != 1)=true:=bne_iff_ne.mpr c2
 by_cases c3:a0=2
 ·rw[if_pos c3] at H
  have c3b0:(a0==2)=true:=beq_iff_eq.mpr c3;have c3b1:(a0 != 2)=false:=bne_eq_false_iff_eq.mpr c3;clear c3;obtain rfl:=zKq H;go_enter Try.func121,Try.ntmps121;go_wp2;go_ret;exact⟨by first|rfl|(simp;done)|(simp[*];done),by repeat(first|exact Drawn0.refl _|apply Drawn0.step)⟩
 rw[if_neg c3] at H
 have c3b0:(a0==2)=false:=beq_eq_false_iff_ne.mpr c3
 have c3b1:(a0 != 2)=true:=bne_iff_ne.mpr c3
 by_cases c4:a0=4
 ·rw[if_pos c4] at H
  have c4b0:(a0==4)=true:=beq_iff_eq.mpr c4;have c4b1:(a0 != 4)=false:=bne_eq_false_iff_eq.mpr c4;clear c4;obtain rfl:=zKq H;go_enter Try.func121,Try.ntmps121;go_wp2;go_ret;exact⟨by first|rfl|(simp;done)|(simp[*];done),by repeat(first|exact Drawn0.refl _|apply Drawn0.step)⟩
 rw[if_neg c4] at H
 have c4b0:(a0==4)=false:=beq_eq_false_iff_ne.mpr c4
 have c4b1:(a0 != 4)=true:=bne_iff_ne.mpr c4
 obtain rfl:=zKq H
 go_enter Try.func121,Try.ntmps121
 go_wp2
 go_ret
 exact⟨by first|rfl|(simp;done)|(simp[*];done),by repeat(first|exact Drawn0.refl _|apply Drawn0.step)⟩
end Go.Proofs.Ytdpcgigjlcpofaa.F
namespace Go.Proofs.Ytdpcgigjlcpofaa.F
open Go.RowKit Go.Proofs.YtdpcgigjlcpofaaX Go.Proofs.YtdpcgigjlcpofaaW.PrintWords Go.Proofs.YtdpcgigjlcpofaaW.PrintLast Go.Proofs.YtdpcgigjlcpofaaW.PrintMore
attribute [local go_sem] max2_int min2_int max_two min_two max_three min_three max_four min_four
attribute [local go_sem high] str_geq str_leq str_gtr
set_option linter.unusedVariables false
set_option linter.unusedSimpArgs false
mutual
def bI.j0:Nat→Int→Int→Bool→Option (ByteArray × Int)
  |0,_,_,_=>none
  |k+1,x0,x1,x23=>if x23=true then(some ((⟨#[]⟩:ByteArray),8))else(if 0≤x1 then(if(x1:Int).toNat≤281474976710656 then(bI.l0 k x0 (List.replicate (x1:Int).toNat 0) (wrap64 (x1 - 1)))else(none))else(none))
def bI.l0:Nat→Int→List Int→Int→Option (ByteArray × Int)
  |0,_,_,_=>none
  |k+1,x0,x6,x7=>if x7≥0 then(if 0≤x7 then(if x7 < (x6.length:Int)then(bI.l0 k (x0 / 256) (x6.set (x7:Int).toNat ((x0) % 256)) (wrap64 (x7 - 1)))else(none))else(none))else(some (strOfNums x6,0))
end
def bI.f (k:Nat) (a0:Int) (a1:Int):Option (ByteArray × Int):=(cN.f a1).bind fun t101=> (if t101=true then(if a0 < 0 then(bI.j0 k a0 a1 true)else(if a1 < 8 then(if 0≤(wrap64 (8 * a1))then(bI.j0 k a0 a1 (decide ((shr .i64 a0 (wrap64 (8 * a1))) > 0)))else(none))else(bI.j0 k a0 a1 false)))else(some ((⟨#[]⟩:ByteArray),2)))
theorem bI.mono_l: ∀ k,(∀ y0 y1 y2,LeO (bI.j0 k y0 y1 y2) (bI.j0 (k+1) y0 y1 y2))∧(∀ y0 y1 y2,LeO (bI.l0 k y0 y1 y2) (bI.l0 (k+1) y0 y1 y2))
  |0=> ⟨fun _ _ _ r h=>by simp[bI.j0] at h,fun _ _ _ r h=>by simp[bI.l0] at h⟩
  |k+1=>by
    obtain⟨ih0,ih1⟩:=bI.mono_l k
    refine⟨?_,?_⟩
    · intro y0 y1 y2
      unfold bI.j0
      repeat' (with_reducible first|exact ih0 _ _ _|exact ih1 _ _ _|exact LeO.refl _|exact LeO.none _|refine LeO.ite ?_ ?_|refine LeO.bind ?_ (fun _=>?_))
    intro y0 y1 y2
    unfold bI.l0
    repeat' (with_reducible first|exact ih0 _ _ _|exact ih1 _ _ _|exact LeO.refl _|exact LeO.none _|refine LeO.ite ?_ ?_|refine LeO.bind ?_ (fun _=>?_))
theorem bI.mono: ∀ a0 a1 k,LeO (bI.f k a0 a1) (bI.f (k+1) a0 a1):=by
  intro a0 a1 k
  obtain⟨ih0,ih1⟩:=bI.mono_l k
  unfold bI.f
  repeat' (with_reducible first|exact ih0 _ _ _|exact ih1 _ _ _|exact LeO.refl _|exact LeO.none _|refine LeO.ite ?_ ?_|refine LeO.bind ?_ (fun _=>?_))
theorem bI.calls (k:Nat) (a0:Int) (a1:Int) (r1:ByteArray) (r2:Int) (w:World) (h:bI.f k a0 a1=some (r1,r2)):
  Calls Try.prog 149 #[.int .i64 a0,.int .i64 a1] w fun e w'=>e= .returned (.tuple #[.string r1,.int .i64 r2])∧Below w.heap.size w w':=by
 have HB:=zA (Below.refl w.heap.size w)
 have H:((cN.f a1).bind fun t101=> (if t101=true then(if a0 < 0 then(bI.j0 k a0 a1 true)else(if a1 < 8 then(if 0≤(wrap64 (8 * a1))then(bI.j0 k a0 a1 (decide ((shr .i64 a0 (wrap64 (8 * a1))) > 0)))else(none))else(bI.j0 k a0 a1 false)))else(some ((⟨#[]⟩:ByteArray),2))))=some (r1,r2):=h
 clear h
 obtain⟨t101,A3,H⟩:=qD_ H
 (try dsimp only at H)
 by_cases c4:t101=true
 ·subst c4
  have H1:(if a0 < 0 then(bI.j0 k a0 a1 true)else(if a1 < 8 then(if 0≤(wrap64 (8 * a1))then(bI.j0 k a0 a1 (decide ((shr .i64 a0 (wrap64 (8 * a1))) > 0)))else(none))else(bI.j0 k a0 a1 false)))=some (r1,r2):=by first|(rw[if_pos rfl] at H;exact H)|rfl
  clear H;have H:=H1;clear H1;have HC5:=zA H;clear H;go_enter Try.func149,Try.ntmps149;go_upto_region 3 with(first|((with_reducible refine zJq (f:=121) rfl ?_);refine goesL_ (some 9) rfl rfl Try.func121 (by kernel_rfl) rfl #[.int .i64 a1] rfl qG ?_;(with_reducible refine(cN.calls a1 true _ A3.out).mono ?_);rintro e w' ⟨rfl,⟨nd,rfl⟩⟩;refine⟨_,rfl,?_⟩))
  (try simp only[Act.put,zH,zI,zJ])
  go_cut[23] (fun v23 wc=> ∃ (kq:Nat) (x23_4:Bool),v23= .bool x23_4∧Aside0 (bI.j0 kq a0 a1 x23_4=some (r1,r2))∧Aside0 (kq≤k)∧Aside0 (Below w.heap.size w wc))
  case first=>
   have H:=HC5.out;clear HC5;by_cases c6:a0 < 0
   ·rw[if_pos c6] at H
    have c6b0:=zFq c6;clear c6;(first|rw[c6b0] |(simp only[i64_w,i32_w];rw[c6b0])|skip)
    have H':=zA H;clear H;go_wp2;go_meet
    case rel=>exact⟨_,(true),qF_,H',⟨by first|omega|exact Nat.le_refl _⟩,⟨qB⟩⟩
   rw[if_neg c6] at H;have c6b0:=zGq c6;clear c6;(first|rw[c6b0] |(simp only[i64_w,i32_w];rw[c6b0])|skip)
   by_cases c7:a1 < 8
   ·rw[if_pos c7] at H
    have c7b0:=zFq c7;clear c7;obtain⟨ji8,hji8⟩: ∃ j_:Int,(wrap64 (8 * a1))=j_:=⟨_,rfl⟩
    replace H:(if 0≤(ji8)then(bI.j0 k a0 a1 (decide ((shr .i64 a0 (ji8)) > 0)))else(none))=some (r1,r2):=by first|(rw[hji8] at H;exact H)|(simp only[hji8] at H⊢;exact H)
    have hji8w:(IntKind.i64.wrap (8 * a1))=ji8:=(i64_w _).trans hji8;by_cases c9:0≤(ji8)
    ·rw[if_pos c9] at H
     have c9b0:=eq_true c9;have c9b1:=zFq c9;clear c9;obtain⟨ji10,hji10⟩: ∃ j_:Int,(shr .i64 a0 (ji8))=j_:=⟨_,rfl⟩
     replace H:(bI.j0 k a0 a1 (decide ((ji10) > 0)))=some (r1,r2):=by first|(rw[hji10] at H;exact H)|(simp only[hji10] at H⊢;exact H)
     have hji10_:(a0 / 2 ^ min (ji8).toNat 64)=ji10:=hji10;have hji10z:(ji8)≤64→(a0 / 2 ^ (ji8).toNat)=ji10:=shr_small hji10;have H':=zA H;clear H;go_wp2;go_meet
     case rel=>exact⟨_,(decide ((ji10) > 0)),(by first|rfl|(simp;done)|(simp only[←hji10] <;> (first|rfl|simp))|(simp[*];done)),H',⟨by first|omega|exact Nat.le_refl _⟩,⟨qB⟩⟩
    rw[if_neg c9] at H;exact absurd H (by simp)
   rw[if_neg c7] at H;have c7b0:=zGq c7;clear c7;have H':=zA H;clear H;go_wp2;go_meet
   case rel=>exact⟨_,(false),qF_,H',⟨by first|omega|exact Nat.le_refl _⟩,⟨qB⟩⟩
  case rest=>
   clear HC5;try clear c1
   try clear p2
   try clear c4
   try clear c6
   try clear c6b0
   try clear p6
   try clear c7
   try clear c7b0
   try clear c9
   try clear c9b0
   try clear c9b1
   obtain⟨kq,x23_4,rfl,HA,HJ4,HB⟩:=hcut;cases kq with
   |zero=>exact absurd HA.out (by simp[bI.j0])
   |succ kj4=>
    have H:=HA.out;clear HA;simp only[bI.j0] at H;by_cases c11:x23_4=true
    ·subst c11
     have H1:(some ((⟨#[]⟩:ByteArray),8))=some (r1,r2):=by first|(rw[if_pos rfl] at H;exact H)|rfl
     clear H;have H:=H1;clear H1;simp only[zNq,zOq] at H;obtain⟨rfl,rfl⟩:=H;go_wp2;go_ret2;exact⟨qE,qB⟩
    replace c11:=Bool.eq_false_iff.mpr c11;subst c11;have H1:(if 0≤a1 then(if(a1:Int).toNat≤281474976710656 then(bI.l0 kj4 a0 (List.replicate (a1:Int).toNat 0) (wrap64 (a1 - 1)))else(none))else(none))=some (r1,r2):=by first|(rw[if_neg (show ¬ (false=true) by decide)] at H;exact H)|rfl
    clear H;have H:=H1;clear H1;by_cases c12:0≤a1
    ·rw[if_pos c12] at H
     have c12b0:=eq_true c12;have c12b1:=zFq c12;clear c12;by_cases c13:(a1:Int).toNat≤281474976710656
     ·rw[if_pos c13] at H
      have c13b0:=eq_true c13;have c13b1:=zFq c13;clear c13;obtain⟨y102,hy102⟩: ∃ y_:List Int,y_=(List.replicate (a1:Int).toNat 0):=⟨_,rfl⟩
      replace H:(bI.l0 kj4 a0 y102 (wrap64 (a1 - 1)))=some (r1,r2):=by first|(rw[hy102];with_reducible exact H)|(have H2_:=(Option.bind_some _ _).symm.trans H;rw[hy102];with_reducible exact H2_)|(have H2_:=(Option.bind_some _ _).symm.trans H;with_reducible exact H2_)|with_reducible exact H|(rw[hy102];exact H)|exact H
      have Ny102:=zA hy102;clear hy102;have H':=zA H;clear H;go_wp2_with (first|((with_reducible refine gate_dst (N:=25) rfl ?_);refine Kd.R_make (Kd.int .u8) _ 5 rfl (N:=25) rfl 185 _ _ rfl a1 rfl rfl Try.underlying185 (.int .u8 0) 1 info5 rfl (by decide) (by omega) 0 (ok:=fun _=>True) (okp:=fun _=>True) rfl (fun _ hk=>hk) trivial (qO_) (Nat.le_trans (Nat.mul_le_mul_right _ (qO_:a1.toNat≤281474976710656)) (by omega)) (Below.refl _ _) (Nat.le_refl _) ?_;intro v103 w14 ho15 hb hg_ hnew_;clear hg_ hnew_;(first|rw[←Ny102.out] at ho15|(simp only[Int.reduceToNat] at ho15;rw[←Ny102.out] at ho15));have HO104:=zA (Kd.R_lower ho15 (zW qB));replace HB:=zA (zV qB hb);clear hb ho15));go_loopg[0,7] kj4 (fun kq v0 v7 w'=> ∃ (x0_2:Int) (x6_2:List Int) (x7_2:Int),v0= .int .i64 x0_2∧v7= .int .i64 x7_2∧Aside0 (bI.l0 kq x0_2 x6_2 x7_2=some (r1,r2))∧Aside0 (kq≤kj4)∧Aside0 (Kd.R (Kd.int .u8) 5 w' w.heap.size (fun _=>True) v103 x6_2)∧Aside0 (Below w.heap.size w w'))
      case atStart=>exact⟨(a0),(y102),(wrap64 (a1 - 1)),qF_,qF_,H',⟨Nat.le_refl _⟩,⟨qR_ HO104.out⟩,⟨qB⟩⟩
      case round=>
       clear H';try clear c1
       try clear p2
       try clear c4
       try clear c6
       try clear c6b0
       try clear p6
       try clear c7
       try clear c7b0
       try clear c9
       try clear c9b0
       try clear c9b1
       try clear c11
       try clear c12
       try clear c12b0
       try clear c12b1
       try clear c13
       try clear c13b0
       try clear c13b1
       try clear c14
       try clear p2
       try clear p6
       obtain⟨x0_2,x6_2,x7_2,rfl,rfl,HA,HK2,HO_6,HB⟩:=hrel;cases gk with
       |zero=>exact absurd HA.out (by simp[bI.l0])
       |succ k2=>
        have H:=HA.out;clear HA;simp only[bI.l0] at H;by_cases c16:x7_2≥0
        ·rw[if_pos c16] at H
         have c16b0:decide (0≤x7_2)=true:=zFq c16;clear c16;by_cases c17:0≤x7_2
         ·rw[if_pos c17] at H
          have c17b0:=zFq c17;clear c17;by_cases c18:x7_2 < (x6_2.length:Int)
          ·rw[if_pos c18] at H
           have c18b0:=zFq c18;clear c18;obtain⟨y105,hy105⟩: ∃ y_:List Int,y_=(x6_2.set (x7_2:Int).toNat ((x0_2) % 256)):=⟨_,rfl⟩
           replace H:(bI.l0 k2 (x0_2 / 256) y105 (wrap64 (x7_2 - 1)))=some (r1,r2):=by first|(rw[hy105];with_reducible exact H)|(have H2_:=(Option.bind_some _ _).symm.trans H;rw[hy105];with_reducible exact H2_)|(have H2_:=(Option.bind_some _ _).symm.trans H;with_reducible exact H2_)|with_reducible exact H|(rw[hy105];exact H)|exact H
           have Ny105:=zA hy105;clear hy105;have H':=zA H;clear H;have p19:0≤(x7_2:Int):=qO_;have q19:(x7_2:Int) < ((x6_2.length:Int):Int):=qO_;obtain⟨go19,co19,eo19,gb19,gl19,cl19,HG19⟩:=Kd.R_form HO_6.out (by omega);(first|cases eo19|(injection eo19 with ea_ en_ ec_;(first|subst ea_|(injection ea_ with ea_;subst ea_));subst ec_;clear en_))
           have GB19:=zA gb19;have GG19:=zA HG19;clear gb19 gl19 HG19;obtain⟨hx19_0,hf19_0⟩:=Kd.R_celln 0 HO_6.out (x7_2:Int) p19 q19;replace p19:=eq_true p19;replace q19:=eq_true q19;have HP20:=Kd.R_putg HO_6.out (x7_2:Int) ((x0_2) % 256);go_wp2_with (first|((with_reducible refine gate_store (t:=5) (p:=36) rfl ?_);refine store_event (t:=5) (p:=36) (v:=?vo_w21) (w1:=(wr.setCell ⟨go19,(x7_2:Int).toNat,none⟩ (.int .u8 ((x0_2) % 256)))) ?hg ?ho ?hn ?hr ?_;(case ho=>rfl);(case hg=>rfl);(case hn=>rfl);(case hr=>first|(go_simp;done)|(go_simp;rfl));intro w21 hw;have hg:wr.grownBy w21 (some go19):=(by rw[hw];exact HP20.2);have hp_:Kd.R (Kd.int .u8) 5 w21 w.heap.size (fun _=>True) (.slice (some ⟨go19,0,none⟩) x6_2.length co19) y105:=(by rw[hw,Ny105.out];exact HP20.1);clear HP20;replace HO_6:=zA (hp_);replace HB:=zA ((by rw[hw];exact zE (HB.out) GB19.out:Below w.heap.size w w21));clear hg hw hp_));go_roundg k2
           case measure=>have:=HJ4.out;have:=HK2.out;omega
           case rel=>exact⟨(x0_2 / 256),(y105),(wrap64 (x7_2 - 1)),qF_,qF_,H',⟨by have:=HJ4.out;have:=HK2.out;omega⟩,⟨qR_ HO_6.out⟩,⟨qB⟩⟩
          rw[if_neg c18] at H;exact absurd H (by simp)
         rw[if_neg c17] at H;exact absurd H (by simp)
        rw[if_neg c16] at H;have c16b0:decide (0≤x7_2)=false:=zGq c16;clear c16;simp only[zNq,zOq] at H;obtain⟨rfl,rfl⟩:=H;have hcv22:=own_string (P:=Try.prog) Try.underlying185 Try.underlying5 Try.underlying9 (Kd.own_of_R HO_6.out);go_wp2;go_ret2;exact⟨qE,qB⟩
     rw[if_neg c13] at H;exact absurd H (by simp)
    rw[if_neg c12] at H;exact absurd H (by simp)
 replace c4:=Bool.eq_false_iff.mpr c4
 subst c4
 have H1:(some ((⟨#[]⟩:ByteArray),2))=some (r1,r2):=by first|(rw[if_neg (show ¬ (false=true) by decide)] at H;exact H)|rfl
 clear H
 have H:=H1
 clear H1
 simp only[zNq,zOq] at H
 obtain⟨rfl,rfl⟩:=H
 go_enter Try.func149,Try.ntmps149
 go_wp2_with (first|((with_reducible refine zJq (f:=121) rfl ?_);refine goesL_ (some 9) rfl rfl Try.func121 (by kernel_rfl) rfl #[.int .i64 a1] rfl qG ?_;(with_reducible refine(cN.calls a1 false _ A3.out).mono ?_);rintro e w' ⟨rfl,⟨nd,rfl⟩⟩;refine⟨_,rfl,?_⟩))
 go_ret2
 exact⟨qE,qB⟩
end Go.Proofs.Ytdpcgigjlcpofaa.F
namespace Go.Proofs.Ytdpcgigjlcpofaa.F
open Go.RowKit Go.Proofs.YtdpcgigjlcpofaaX Go.Proofs.YtdpcgigjlcpofaaW.PrintWords Go.Proofs.YtdpcgigjlcpofaaW.PrintLast Go.Proofs.YtdpcgigjlcpofaaW.PrintMore
attribute [local go_sem] max2_int min2_int max_two min_two max_three min_three max_four min_four
attribute [local go_sem high] str_geq str_leq str_gtr
set_option linter.unusedVariables false
set_option linter.unusedSimpArgs false
def cS.f (k:Nat) (a0:ByteArray):Option (ByteArray × Int):=if(a0.size:Int) > 65535 then(some ((⟨#[]⟩:ByteArray),3))else((bI.f k (a0.size:Int) 2).bind fun bt101=> (if bt101.1.size+a0.size≤9223372036854775807 then(some (bt101.1++a0,bt101.2))else(none)))
theorem cS.mono: ∀ a0 k,LeO (cS.f k a0) (cS.f (k+1) a0):=by
  intro a0 k
  unfold cS.f
  repeat' (with_reducible first|exact bI.mono _ _ _|exact LeO.refl _|exact LeO.none _|refine LeO.ite ?_ ?_|refine LeO.bind ?_ (fun _=>?_))
theorem cS.calls (k:Nat) (a0:ByteArray) (r1:ByteArray) (r2:Int) (w:World) (h:cS.f k a0=some (r1,r2)):
  Calls Try.prog 150 #[.string a0] w fun e w'=>e= .returned (.tuple #[.string r1,.int .i64 r2])∧Below w.heap.size w w':=by
 have HB:=zA (Below.refl w.heap.size w)
 have H:(if(a0.size:Int) > 65535 then(some ((⟨#[]⟩:ByteArray),3))else((bI.f k (a0.size:Int) 2).bind fun bt101=> (if bt101.1.size+a0.size≤9223372036854775807 then(some (bt101.1++a0,bt101.2))else(none))))=some (r1,r2):=h
 clear h
 by_cases c2:(a0.size:Int) > 65535
 ·rw[if_pos c2] at H
  have c2b0:decide (65535 < (a0.size:Int))=true:=zFq c2;have c2b1:decide (65535 < a0.size)=true:=zFq (by omega);clear c2;simp only[zNq,zOq] at H;obtain⟨rfl,rfl⟩:=H;go_enter Try.func150,Try.ntmps150;go_wp2;go_ret2;exact⟨qE,qB⟩
 rw[if_neg c2] at H
 have c2b0:decide (65535 < (a0.size:Int))=false:=zGq c2
 have c2b1:decide (65535 < a0.size)=false:=zGq (by omega)
 clear c2
 obtain⟨⟨t101,t102⟩,A3,H⟩:=qD_ H
 (try dsimp only at H)
 by_cases c4:t101.size+a0.size≤9223372036854775807
 ·rw[if_pos c4] at H
  have c4b0:=eq_true c4;have c4b1:=zFq c4;try have c4b2:(9223372036854775807 < t101.size+a0.size)=False:=eq_false (Nat.not_lt.2 c4)
  simp only[zNq,zOq] at H;obtain⟨rfl,rfl⟩:=H;go_enter Try.func150,Try.ntmps150;go_wp2_with (first|((with_reducible refine zJq (f:=149) rfl ?_);refine goesL_ (some 12) rfl rfl Try.func149 (by kernel_rfl) rfl #[.int .i64 (a0.size:Int),.int .i64 2] rfl qG ?_;(with_reducible refine(bI.calls k (a0.size:Int) 2 t101 t102 _ A3.out).mono ?_);rintro e w5 ⟨rfl,hb⟩;refine⟨_,rfl,?_⟩;replace HB:=zA (zV qB hb);(try clear hb)));go_ret2;exact⟨qE,qB⟩
 rw[if_neg c4] at H
 exact absurd H (by simp)
end Go.Proofs.Ytdpcgigjlcpofaa.F
namespace Go.Proofs.Ytdpcgigjlcpofaa.F
open Go.RowKit Go.Proofs.YtdpcgigjlcpofaaX Go.Proofs.YtdpcgigjlcpofaaW.PrintWords Go.Proofs.YtdpcgigjlcpofaaW.PrintLast Go.Proofs.YtdpcgigjlcpofaaW.PrintMore
attribute [local go_sem] max2_int min2_int max_two min_two max_three min_three max_four min_four
attribute [local go_sem high] str_geq str_leq str_gtr
set_option linter.unusedVariables false
set_option linter.unusedSimpArgs false
def cK.f (k:Nat) (a0_0:Int) (a0_1:ByteArray):Option (ByteArray × Int):=(bI.f k a0_0 4).bind fun bt102=> (if bt102.2=0 then((cS.f k a0_1).bind fun bt104=> (if bt102.1.size+bt104.1.size≤9223372036854775807 then(some (bt102.1++bt104.1,bt104.2))else(none)))else(some ((⟨#[]⟩:ByteArray),bt102.2)))
theorem cK.mono: ∀ a0 a1 k,LeO (cK.f k a0 a1) (cK.f (k+1) a0 a1):=by
  intro a0 a1 k
  unfold cK.f
  repeat' (with_reducible first|exact cS.mono _ _|exact bI.mono _ _ _|exact LeO.refl _|exact LeO.none _|refine LeO.ite ?_ ?_|refine LeO.bind ?_ (fun _=>?_))
theorem cK.calls (k:Nat) (a0_0:Int) (a0_1:ByteArray) (r1:ByteArray) (r2:Int) (w:World) (h:cK.f k a0_0 a0_1=some (r1,r2)):
  Calls Try.prog 110 #[.agg #[.int .i64 a0_0,.string a0_1]] w fun e w'=>e= .returned (.tuple #[.string r1,.int .i64 r2])∧Below w.heap.size w w':=by
 have hu164:=Try.underlying164
 have HB:=zA (Below.refl w.heap.size w)
 have H:((bI.f k a0_0 4).bind fun bt102=> (if bt102.2=0 then((cS.f k a0_1).bind fun bt104=> (if bt102.1.size+bt104.1.size≤9223372036854775807 then(some (bt102.1++bt104.1,bt104.2))else(none)))else(some ((⟨#[]⟩:ByteArray),bt102.2))))=some (r1,r2):=h
 clear h
 obtain⟨⟨t102,t103⟩,A2,H⟩:=qD_ H
 (try dsimp only at H)
 by_cases c3:t103=0
 ·rw[if_pos c3] at H
  have c3b0:(t103==0)=true:=beq_iff_eq.mpr c3;have c3b1:(t103 != 0)=false:=bne_eq_false_iff_eq.mpr c3;clear c3;obtain⟨⟨t104,t105⟩,A4,H⟩:=qD_ H;(try dsimp only at H);by_cases c5:t102.size+t104.size≤9223372036854775807
  ·rw[if_pos c5] at H
   have c5b0:=eq_true c5;have c5b1:=zFq c5;try have c5b2:(9223372036854775807 < t102.size+t104.size)=False:=eq_false (Nat.not_lt.2 c5)
   simp only[zNq,zOq] at H;obtain⟨rfl,rfl⟩:=H;go_enter Try.func110,Try.ntmps110;go_wp2_with (first|((with_reducible refine gate_dst (N:=1) rfl ?_);refine box_event qr (N:=1) qr (cs:= #[.int .i64 a0_0,.string a0_1]) (t:=164) qg ?_;intro gb101 hg w6 hbox hb;have BK101:=zA (hbox);have GW101:=zA ((qS:w.heap.size≤gb101));have GE101:=zA ((qS:w.heap.size≤gb101));replace HB:=zA (zV qB hb);clear hb hbox hg;obtain⟨_,_,_,_⟩:=qc2f BK101.out)|((with_reducible refine zJq (f:=149) rfl ?_);refine goesL_ (some 10) rfl rfl Try.func149 (by kernel_rfl) rfl #[.int .i64 a0_0,.int .i64 4] rfl qG ?_;(with_reducible refine(bI.calls k a0_0 4 t102 t103 _ A2.out).mono ?_);rintro e w8 ⟨rfl,hb⟩;refine⟨_,rfl,?_⟩;replace BK101:=zA (qX BK101.out hb);replace HB:=zA (zV qB hb);(try clear hb);obtain⟨_,_,_,_⟩:=qc2f BK101.out)|((with_reducible refine zJq (f:=150) rfl ?_);refine goesL_ (some 19) rfl rfl Try.func150 (by kernel_rfl) rfl #[.string a0_1] rfl qG ?_;(with_reducible refine(cS.calls k a0_1 t104 t105 _ A4.out).mono ?_);rintro e w10 ⟨rfl,hb⟩;refine⟨_,rfl,?_⟩;replace BK101:=zA (qX BK101.out hb);replace HB:=zA (zV qB hb);(try clear hb)));go_ret2;exact⟨qE,qB⟩
  rw[if_neg c5] at H;exact absurd H (by simp)
 rw[if_neg c3] at H
 have c3b0:(t103==0)=false:=beq_eq_false_iff_ne.mpr c3
 have c3b1:(t103 != 0)=true:=bne_iff_ne.mpr c3
 simp only[zNq,zOq] at H
 obtain⟨rfl,rfl⟩:=H
 go_enter Try.func110,Try.ntmps110
 go_wp2_with (first|((with_reducible refine gate_dst (N:=1) rfl ?_);refine box_event qr (N:=1) qr (cs:= #[.int .i64 a0_0,.string a0_1]) (t:=164) qg ?_;intro gb101 hg w11 hbox hb;have BK101:=zA (hbox);have GW101:=zA ((qS:w.heap.size≤gb101));have GE101:=zA ((qS:w.heap.size≤gb101));replace HB:=zA (zV qB hb);clear hb hbox hg;obtain⟨_,_,_,_⟩:=qc2f BK101.out)|((with_reducible refine zJq (f:=149) rfl ?_);refine goesL_ (some 10) rfl rfl Try.func149 (by kernel_rfl) rfl #[.int .i64 a0_0,.int .i64 4] rfl qG ?_;(with_reducible refine(bI.calls k a0_0 4 t102 t103 _ A2.out).mono ?_);rintro e w13 ⟨rfl,hb⟩;refine⟨_,rfl,?_⟩;replace BK101:=zA (qX BK101.out hb);replace HB:=zA (zV qB hb);(try clear hb)))
 go_ret2
 exact⟨qE,qB⟩
end Go.Proofs.Ytdpcgigjlcpofaa.F
set_option linter.unusedVariables false
set_option linter.unusedSimpArgs false
namespace Go.Proofs.YtdpcgigjlcpofaaX
open Go.RowKit Go.Shelf
theorem sizeBuilder:(Try.prog.info? 187).map (·.size)=some 2:=by kernel_rfl
theorem liesBuilder:liesAt Try.prog Try.prog.depth 187 (2 / Try.prog.cellsOf 187) 0 187 1=true:=by kernel_rfl
theorem infoByte:(Try.prog.info? 5).map (fun i=> (i.zero,i.size,i.bytes))=some (some (.int .u8 0),1,1):=by kernel_rfl
theorem copyCheck_used (b:Nat) (w:World) (h0:w.cell? ⟨b,0,none⟩=some (.pointer (some ⟨b,0,none⟩))):
  Calls Try.prog 148 #[.pointer (some ⟨b,0,none⟩)] w fun e w'=>e= .returned (.tuple #[])∧w'=w:=by
 obtain⟨j,hj,_⟩:=Option.map_eq_some_iff.1 sizeBuilder
 go_enter Try.func148,Try.ntmps148
 go_wp2
 rw[Lib.run_neq_ptr_same w _ Try.underlying184 hj]
 go_wp2
 go_end0
 exact⟨rfl,rfl⟩
theorem copyCheck_fresh (b:Nat) (w:World) (h0:w.cell? ⟨b,0,none⟩=some (.pointer none)) (hsh:w.shape? b=some (187,2)) (hfz:w.frozen? ⟨b,0,none⟩=false):
  Calls Try.prog 148 #[.pointer (some ⟨b,0,none⟩)] w fun e w'=>e= .returned (.tuple #[])∧w'=w.setCell ⟨b,0,none⟩ (.pointer (some ⟨b,0,none⟩)):=by
 obtain⟨j,hj,hjs⟩:=Option.map_eq_some_iff.1 sizeBuilder
 go_enter Try.func148,Try.ntmps148
 go_wp2
 rw[Lib.run_to_unsafe w ⟨b,0,none⟩ Try.underlying184 Try.underlying242 hj (by rw[hjs];decide) hsh (Nat.zero_lt_succ 1)]
 simp only[Result.andThen]
 rw[Oper.upon_value]
 go_wp2
 rw[run_callFunc_extern Try.func166 (by kernel_rfl) (by kernel_rfl) (by kernel_rfl) (e:=Extern.AbiNoEscape.same) (by kernel_rfl)]
 rw[Lib.run_noEscape]
 simp only[Result.andThen]
 rw[Oper.upon_value]
 go_wp2
 rw[Lib.run_from_unsafe w ⟨b,0,none⟩ Try.underlying242 Try.underlying184 hj hsh liesBuilder]
 simp only[Result.andThen]
 rw[Oper.upon_value]
 go_wp2
 go_end0
 exact⟨rfl,rfl⟩
theorem copyCheck_k (B b:Nat) (bs:List Value) (w:World) (h:Lib.IsBuilderF 187 5 B b bs w):
    Calls Try.prog 148 #[.pointer (some ⟨b,0,none⟩)] w fun e w'=>e= .returned (.tuple #[])∧(Lib.BuilderAtF 187 5 B b (.pointer (some ⟨b,0,none⟩)) bs w'∧Below B w w'∧Lib.OthersKept 5 (some b) w w'):=by
  rcases h with h|h
  · refine(copyCheck_fresh b w h.cell0 h.shape h.frozen0).mono ?_
    rintro e w' ⟨rfl,rfl⟩
    exact⟨rfl,h.used _,(Below.refl B w).setCell (p:=⟨b,0,none⟩) h.1 _,(Lib.OthersKept.refl _ _ w).setCell ⟨b,0,none⟩ rfl _⟩
  refine(copyCheck_used b w h.cell0).mono ?_
  rintro e w' ⟨rfl,rfl⟩
  exact⟨rfl,h,Below.refl B _,Lib.OthersKept.refl _ _ _⟩
theorem WriteString_k (B b:Nat) (bs:List Value) (s:ByteArray) (w:World) (h:Lib.IsBuilderF 187 5 B b bs w) (hlen:bs.length+s.size≤140737488355328) (hBw:B≤w.heap.size):
  Calls Try.prog 111 #[.pointer (some ⟨b,0,none⟩),.string s] w fun e w'=>e= .returned (.tuple #[.int .i64 s.size,.nilIface])∧(Lib.BuilderAtF 187 5 B b (.pointer (some ⟨b,0,none⟩)) (bs++Lib.strCells s) w'∧Below B w w'∧Lib.OthersKept 5 (some b) w w'):=by
 obtain⟨i0,hi,hz0,hz1,hz2⟩:=info_parts infoByte
 go_enter Try.func111,Try.ntmps111
 go_wp2_with (go_at_call 148;refine(copyCheck_k B b bs _ h).mono ?_)
 rintro e w1 ⟨rfl,h1,hb1,hk1⟩
 obtain⟨hB,v,hbk,hown,hne⟩:=h1
 have c0:w1.cell? ⟨b,0,none⟩=some (.pointer (some ⟨b,0,none⟩)):=by rw[Lib.cell_of_heap hbk];rfl
 have c1:w1.cell? ⟨b,1,none⟩=some v:=by rw[Lib.cell_of_heap hbk];rfl
 go_wp2_with (at_builtin;refine Lib.wpList_append_own_stringF _ rfl _ _ 185 9 rfl B 5 i0 Try.underlying185 Try.underlying9 hi hz0 hz1 hz2 _ _ _ rfl hown s rfl ?c3 ?c4 ?c5 ?_)
 case c3=>unfold maxLen;omega
 case c4=>omega
 case c5=>have:=hb1.size;omega
 intro v' w2 hown' hgrow _
 have hlt:b < w1.heap.size:=by
  rcases Nat.lt_or_ge b w1.heap.size with h'|h'
  ·exact h'
  simp[Array.getElem?_eq_none h'] at hbk
 have hb2:w2.heap[b]? =some (.cells #[.pointer (some ⟨b,0,none⟩),v] 187 (0,0)):=by
  rw[hgrow.block b hlt (fun e=>hne e.symm)]
  exact hbk
 have d0:w2.cell? ⟨b,0,none⟩=some (.pointer (some ⟨b,0,none⟩)):=by rw[Lib.cell_of_heap hb2];rfl
 have d1:w2.cell? ⟨b,1,none⟩=some v:=by rw[Lib.cell_of_heap hb2];rfl
 have f1:w2.frozen? ⟨b,1,none⟩=false:=Lib.frozen_of_heap hb2 1
 obtain⟨ao,n',cap,rfl⟩: ∃ ao n' cap,v'= .slice ao n' cap:=by
  rcases hown'.2 with⟨hv,_⟩|⟨g,cap,cur,fz,hv,_⟩
  ·exact⟨_,_,_,hv⟩
  exact⟨_,_,_,hv⟩
 go_wp2
 go_ret2
 refine⟨rfl,?_,?_,(hk1.grown hgrow (Lib.ownsRowF_kind hown)).setCell ⟨b,1,none⟩ rfl _⟩
 ·exact Lib.BuilderAtF.put (T:=187) (e:=5) hB hb2 (bs':=bs++Lib.strCells s) (by simpa [Lib.strCells_length] using hown') (by decide)
 exact(hb1.grown hgrow (by have:=hb1.size;omega) (fun k hk=> (hown.lt k hk).1)).setCell (p:=⟨b,1,none⟩) hB _
theorem _root_.Go.Lib.IsBuilderF.below {T e:TypeId} {B b:Nat} {bs:List Value} {w w1:World} (h:Lib.IsBuilderF T e B b bs w) (hb:Below w.heap.size w w1):Lib.IsBuilderF T e B b bs w1:=by
  have key: ∀ p,Lib.BuilderAtF T e B b p bs w→Lib.BuilderAtF T e B b p bs w1:=by
    intro p hp
    have hlt:=hp.lt
    obtain⟨hB,v,hbk,hown,hne⟩:=hp
    exact⟨hB,v,(hb.block b hlt).trans hbk,hown.kept (Go.Proofs.YtdpcgigjlcpofaaW.PrintWords.grown_of_below hb none) (by cases v.ownBlock <;> simp),hne⟩
  exact h.elim (fun x=> .inl (key _ x)) (fun x=> .inr (key _ x))
end Go.Proofs.YtdpcgigjlcpofaaX
set_option linter.unusedVariables false
set_option linter.unusedSimpArgs false
namespace Go.Proofs.YtdpcgigjlcpofaaX
open Go.RowKit Go.Shelf
theorem WriteByte_k (B b:Nat) (bs:List Value) (c:Int) (w:World) (h:Lib.IsBuilderF 187 5 B b bs w) (hlen:bs.length+1≤140737488355328) (hBw:B≤w.heap.size):
  Calls Try.prog 109 #[.pointer (some ⟨b,0,none⟩),.int .u8 c] w fun e w'=>e= .returned .nilIface∧(Lib.BuilderAtF 187 5 B b (.pointer (some ⟨b,0,none⟩)) (bs++ [.int .u8 c]) w'∧Below B w w'∧Lib.OthersKept 5 (some b) w w'):=by
 obtain⟨i0,hi,hz0,hz1,hz2⟩:=info_parts infoByte
 go_enter Try.func109,Try.ntmps109
 go_wp2_with (go_at_call 148;refine(copyCheck_k B b bs _ h).mono ?_)
 rintro e w1 ⟨rfl,h1,hb1,hk1⟩
 obtain⟨hB,v,hbk,hown,hne⟩:=h1
 have c0:w1.cell? ⟨b,0,none⟩=some (.pointer (some ⟨b,0,none⟩)):=by rw[Lib.cell_of_heap hbk];rfl
 have c1:w1.cell? ⟨b,1,none⟩=some v:=by rw[Lib.cell_of_heap hbk];rfl
 go_wp2_with (at_builtin;refine wpList_append_ownF _ rfl _ _ 185 rfl B 5 i0 (.int .u8 0) 1 1 Try.underlying185 hi hz0 hz1 hz2 rfl (by decide) _ _ _ rfl (hown.alloc _) ⟨w1.heap.size,0,none⟩ 1 1 [.int .u8 c] rfl rfl ?c1 ?c2 ?c3 ?c4 ?c5 ?_)
 case c1=>
  intro j u hj
  match j,hj with
  |0,hj=>simp at hj;subst hj;simp[Addr.add]
 case c2=>intro u hu;simp at hu;subst hu;rfl
 case c3=>unfold maxLen;omega
 case c4=>omega
 case c5=>have:=hb1.size;simp;omega
 intro v' w2 hown' hgrow _
 have hlt:b < w1.heap.size:=by
  rcases Nat.lt_or_ge b w1.heap.size with h'|h'
  ·exact h'
  simp[Array.getElem?_eq_none h'] at hbk
 have hb2:w2.heap[b]? =some (.cells #[.pointer (some ⟨b,0,none⟩),v] 187 (0,0)):=by
  rw[hgrow.block b (by simp;omega) (fun e=>hne e.symm),Lib.alloc_old w1 _ b hlt]
  exact hbk
 have d0:w2.cell? ⟨b,0,none⟩=some (.pointer (some ⟨b,0,none⟩)):=by rw[Lib.cell_of_heap hb2];rfl
 have d1:w2.cell? ⟨b,1,none⟩=some v:=by rw[Lib.cell_of_heap hb2];rfl
 have f1:w2.frozen? ⟨b,1,none⟩=false:=Lib.frozen_of_heap hb2 1
 obtain⟨ao,n',cap,rfl⟩: ∃ ao n' cap,v'= .slice ao n' cap:=by
  rcases hown'.2 with⟨hv,_⟩|⟨g,cap,cur,fz,hv,_⟩
  ·exact⟨_,_,_,hv⟩
  exact⟨_,_,_,hv⟩
 go_wp2
 go_ret
 refine⟨rfl,?_,?_,?_⟩
 ·exact Lib.BuilderAtF.put (T:=187) (e:=5) hB hb2 (bs':=bs++ [.int .u8 c]) (by simpa using hown') (by decide)
 ·exact((hb1.alloc (by have:=hb1.size;omega) _).grown hgrow (by have:=hb1.size;simp;omega) (fun k hk=> (hown.lt k hk).1)).setCell (p:=⟨b,1,none⟩) hB _
 exact((hk1.alloc _).grown hgrow (Lib.ownsRowF_kind (hown.alloc _))).setCell ⟨b,1,none⟩ rfl _
end Go.Proofs.YtdpcgigjlcpofaaX
set_option linter.unusedVariables false
namespace Go.Proofs
open Go.Shelf
def Try.lays169_ren:Go.Shelf.Ren:=⟨fun|169=>112|n=>n,fun|70=>184|9=>9|0=>0|72=>187|37=>185|127=>229|3=>3|5=>5|n=>n,fun|n=>n⟩
theorem Try.lays169:Go.Proofs.Lays.n169 Try.prog Try.lays169_ren:= {
  mixed:=by kernel_rfl
  f169:=Try.func112.trans (congrArg some (by kernel_rfl))
  t0:=Try.underlying0
  a0:=Try.isAgg0
  z0:=Try.sizeOf0
  v0:=Try.zeroValue0
  t3:=Try.underlying3
  a3:=Try.isAgg3
  z3:=Try.sizeOf3
  v3:=Try.zeroValue3
  t9:=Try.underlying9
  a9:=Try.isAgg9
  z9:=Try.sizeOf9
  v9:=Try.zeroValue9
  t37:=Try.underlying185
  a37:=Try.isAgg185
  z37:=Try.sizeOf185
  v37:=Try.zeroValue185
  t70:=Try.underlying184
  a70:=Try.isAgg184
  z70:=Try.sizeOf184
  v70:=Try.zeroValue184
  t72:=Try.underlying187
  a72:=Try.isAgg187
  z72:=Try.sizeOf187
  v72:=Try.zeroValue187
  t127:=Try.underlying229
  a127:=Try.isAgg229
  z127:=Try.sizeOf229
  v127:=Try.zeroValue229 }
theorem Try.Builder_Extra_169:Builder.Extra Try.prog Try.lays169_ren:= {
  sizeBuilder:=by kernel_rfl
  liesBuilder:=by kernel_rfl
  t5:=Try.underlying5
  a5:=Try.isAgg5
  z5:=Try.sizeOf5
  v5:=Try.zeroValue5
  infoByte:=by kernel_rfl
  cellsByte:=by kernel_rfl
  sizeByte:=by kernel_rfl
  neB5:=by decide }
open Go.RowKit in
theorem Try.Builder_String_any_k (B b:Nat) (l:List UInt8) (w:World) (h:Lib.IsBuilderF 187 5 B b (Lib.byteCells l) w) (hBw:B≤w.heap.size):
    Calls Try.prog 112 #[.pointer (some ⟨b,0,none⟩)] w fun e w'=>e= .returned (.string ⟨l.toArray⟩)∧(Lib.IsBuilderF 187 5 B b (Lib.byteCells l) w'∧Below B w w'∧Lib.OthersKept 5 (some b) w w'):=Any.Builder_String_any_k Try.lays169 Try.Builder_Extra_169 B b l w h hBw
end Go.Proofs
namespace Go.Proofs.Ytdpcgigjlcpofaa.F
open Go.RowKit Go.Proofs.YtdpcgigjlcpofaaX Go.Proofs.YtdpcgigjlcpofaaW.PrintWords Go.Proofs.YtdpcgigjlcpofaaW.PrintLast Go.Proofs.YtdpcgigjlcpofaaW.PrintMore
attribute [local go_sem] max2_int min2_int max_two min_two max_three min_three max_four min_four
attribute [local go_sem high] str_geq str_leq str_gtr
set_option linter.unusedVariables false
set_option linter.unusedSimpArgs false
def aW.bt (n:Nat):ByteArray:=⟨#[UInt8.ofNat n]⟩
def aW.rows (k:Nat):List S164→ByteArray→Option (ByteArray × Int)
  | [],acc=>some (acc,0)
  |x::xs,acc=> (cK.f k x.f0 x.f1).bind fun r=>if r.2=0 then(if acc.size+r.1.size < 140737488355327 then aW.rows k xs (acc++r.1)else none)else some (⟨#[]⟩,r.2)
def aW.tabs (k:Nat):List (List S164)→ByteArray→Option (ByteArray × Int)
  | [],acc=>some (acc,0)
  |l::ls,acc=>if acc.size+1 < 140737488355327 then(aW.rows k l (acc++aW.bt l.length)).bind fun q=>if q.2=0 then aW.tabs k ls q.1 else some (⟨#[]⟩,q.2)else none
def aW.f (k:Nat) (l0_0:List (List S164)):Option (ByteArray × Int):=(aU.f k l0_0).bind fun t=>if t=0 then aW.tabs k l0_0 (aW.bt l0_0.length)else some (⟨#[]⟩,t)
theorem aW.mono_rows (k:Nat): ∀ l acc,LeO (aW.rows k l acc) (aW.rows (k+1) l acc)
  | [],acc=>LeO.refl _
  |x::xs,acc=>by
    simp only[aW.rows]
    exact LeO.bind (cK.mono _ _ _) (fun r=>LeO.ite (LeO.ite (aW.mono_rows k xs _) (LeO.refl _)) (LeO.refl _))
theorem aW.mono_tabs (k:Nat): ∀ l acc,LeO (aW.tabs k l acc) (aW.tabs (k+1) l acc)
  | [],acc=>LeO.refl _
  |x::xs,acc=>by
    simp only[aW.tabs]
    exact LeO.ite (LeO.bind (aW.mono_rows _ _ _) (fun r=>LeO.ite (aW.mono_tabs k xs _) (LeO.refl _))) (LeO.refl _)
theorem aW.mono: ∀ l0 k,LeO (aW.f k l0) (aW.f (k+1) l0):=by
  intro l0 k
  unfold aW.f
  exact LeO.bind (aU.mono _ _) (fun t=>LeO.ite (aW.mono_tabs _ _ _) (LeO.refl _))
theorem aW.cell (n:Nat):(.int .u8 ((n:Int) % 256):Value)= .int .u8 ((UInt8.ofNat n).toNat:Int):=by
  rw[UInt8.toNat_ofNat']
  rfl
theorem aW.cells (acc:ByteArray) (n:Nat):Lib.strCells acc++ [.int .u8 ((n:Int) % 256)] =Lib.strCells (acc++aW.bt n):=by
  rw[aW.cell]
  unfold Lib.strCells
  rw[ByteArray.data_append,Array.toList_append,List.map_append]
  rfl
theorem aW.cell1 (n:Nat):([] :List Value)++ [.int .u8 ((n:Int) % 256)] =Lib.strCells (aW.bt n):=by
  rw[aW.cell]
  rfl
theorem aW.size (acc:ByteArray) (n:Nat):(acc++aW.bt n).size=acc.size+1:=by
  rw[ByteArray.size_append]
  rfl
theorem aW.calls (k:Nat) (A0_0:Option Addr) (c0_0:Nat) (l0_0:List (List S164)) (r1:ByteArray) (r2:Int) (w:World) (hr0_0:Kd.C (Kd.slice 164 k164) w A0_0 l0_0.length l0_0) (hc0_0:l0_0.length≤c0_0) (h:aW.f k l0_0=some (r1,r2)):
  Calls Try.prog 56 #[.agg #[.slice A0_0 l0_0.length c0_0]] w fun e w'=>e= .returned (.tuple #[.string r1,.int .i64 r2])∧Below w.heap.size w w':=by
 have hu75:=Try.underlying75
 have hu164:=Try.underlying164
 unfold aW.f at h
 replace h:=Option.bind_eq_some_iff.1 h
 obtain⟨t,ht,h⟩:=h
 have hll:l0_0.length≤9223372036854775807:=hr0_0.2.1
 have Ht:=zA ht
 have HR:=zA hr0_0
 have HC:=zA hc0_0
 have HL:=zA hll
 have HB:=zA (Below.refl w.heap.size w)
 clear ht hr0_0 hc0_0 hll
 by_cases h0:t=0
 case neg=>
  rw[if_neg h0] at h;simp only[zNq,zOq] at h;obtain⟨rfl,rfl⟩:=h;have h0':(t != 0)=true:=bne_iff_ne.2 h0;have h0'':(t==0)=false:=beq_eq_false_iff_ne.2 h0;clear h0;go_enter Try.func56,Try.ntmps56;go_wp2_with (first
   |((with_reducible refine gate_dst (N:=1) rfl ?_);refine box_event qr (N:=1) qr (cs:= #[.slice A0_0 l0_0.length c0_0]) (t:=75) qg ?_;intro gb1 hg w3 hbox hb;have n0_:=zA (zV HB.out hb);have n1_:=zA hbox;have n2_:=zA ((by rw[hg];exact HB.out.size):w.heap.size≤gb1);clear HB;have HB:=n0_;have BK1:=n1_;have GE1:=n2_;clear n0_ n1_ n2_ hb hbox hg;have hcz1:w3.cell? ⟨gb1,0,none⟩=some (.slice A0_0 l0_0.length c0_0):=(zF BK1.out 0).trans rfl;have hfz1:=zG BK1.out 0)
   |(go_at_call 52;refine(aU.calls k A0_0 c0_0 l0_0 t _ (Kd.C_below HR.out HB.out) HC.out Ht.out).mono ?_;rintro e w5 ⟨rfl,hb5⟩;have HB5:=zA (below_then HB.out HB.out.size hb5);clear hb5))
  go_ret2;exact⟨rfl,HB5.out⟩
 subst h0
 rw[if_pos rfl] at h
 have H:=zA h
 clear h
 go_enter Try.func56,Try.ntmps56
 go_wp2_with (first
  |((with_reducible refine gate_dst (N:=1) rfl ?_);refine box_event qr (N:=1) qr (cs:= #[.slice A0_0 l0_0.length c0_0]) (t:=75) qg ?_;intro gb1 hg w3 hbox hb;have n0_:=zA (zV HB.out hb);have n1_:=zA hbox;have n2_:=zA ((by rw[hg];exact HB.out.size):w.heap.size≤gb1);clear HB;have HB:=n0_;have BK1:=n1_;have GE1:=n2_;clear n0_ n1_ n2_ hb hbox hg;have hcz1:w3.cell? ⟨gb1,0,none⟩=some (.slice A0_0 l0_0.length c0_0):=(zF BK1.out 0).trans rfl;have hfz1:=zG BK1.out 0)
  |(go_at_call 52;refine(aU.calls k A0_0 c0_0 l0_0 0 _ (Kd.C_below HR.out HB.out) HC.out Ht.out).mono ?_;rintro e w5 ⟨rfl,hb5⟩;have HB5:=zA (below_then HB.out HB.out.size hb5);have hcz5:w5.cell? ⟨gb1,0,none⟩=some (.slice A0_0 l0_0.length c0_0):=(hb5.cell (zCq _ _ hcz1)).trans hcz1;have HZ5:=zA hcz5;have hcz5a:=fun X=> ((zD (Below.refl w5.heap.size w5) X).cell (zCq _ _ hcz5)).trans hcz5;clear hcz1 hfz1 hb5)
  |(go_at_call 109;refine(WriteByte_k w5.heap.size w5.heap.size [] _ _ (Lib.IsBuilderF.of (Lib.fresh_isBuilder 187 5 w5)) (by simp) (by simp)).mono ?_;rintro e w6 ⟨rfl,hI6,hb6,_⟩;have HI6:=zA hI6;have HB6:=zA (show Below w5.heap.size w5 w6 from(zD (Below.refl w5.heap.size w5) _).trans hb6);have hcz6:w6.cell? ⟨gb1,0,none⟩=some (.slice A0_0 l0_0.length c0_0):=(HB6.out.cell (zCq _ _ HZ5.out)).trans HZ5.out;clear hcz5 hcz5a hI6 hb6))
 have HI0:Aside0 (Lib.IsBuilderF 187 5 w5.heap.size w5.heap.size (Lib.strCells (aW.bt l0_0.length)) w6):=⟨.inr (by have:=HI6.out;rw[aW.cell1] at this;exact this)⟩
 have HS0:Aside0 ((aW.bt l0_0.length).size < 140737488355327):=⟨by show(1:Nat) < 140737488355327;decide⟩
 clear HI6 hcz6 HZ5
 go_loopg[25] l0_0.length (fun gk v25 wr=> ∃ (i:Nat) (acc:ByteArray),v25= .int .i64 i∧i≤l0_0.length∧l0_0.length - i≤gk∧Aside0 (aW.tabs k (l0_0.drop i) acc=some (r1,r2))∧Aside0 (acc.size < 140737488355327)∧Aside0 (Lib.IsBuilderF 187 5 w5.heap.size w5.heap.size (Lib.strCells acc) wr)∧Aside0 (Below w5.heap.size w5 wr))
 case atStart=>exact⟨0,_,by go_num,Nat.zero_le _,by omega,H,HS0,HI0,HB6⟩
 case round=>
  clear H HS0 HI0 HB6;obtain⟨i,acc,rfl,hi,hgk,H,HS,HI,HBw⟩:=hrel;have hll:=HL.out;by_cases hlt:i < l0_0.length
  ·have hltz:(i:Int) < (l0_0.length:Int):=by omega
   have hw25:IntKind.i64.wrap ((i:Int)+1)=((i+1:Nat):Int):=by rw[IntWalk.i64_in _ (by omega)];rfl
   obtain⟨l,hl⟩: ∃ l,l=rd_L22 l0_0 (i:Int):=⟨_,rfl⟩
   have hli:l=l0_0[i] :=by rw[hl];unfold rd_L22;simp[List.getD_eq_getElem?_getD,hlt]
   have hdrop:l0_0.drop i=l::l0_0.drop (i+1):=by rw[hli];exact List.drop_eq_getElem_cons hlt
   have H1:=H.out;rw[hdrop] at H1;simp only[aW.tabs] at H1;by_cases h5:acc.size+1 < 140737488355327
   case neg=>rw[if_neg h5] at H1;cases H1
   rw[if_pos h5] at H1;have H2:Aside0 (((aW.rows k (l.drop 0) (acc++aW.bt l.length)).bind fun q=>if q.2=0 then aW.tabs k (l0_0.drop (i+1)) q.1 else some (⟨#[]⟩,q.2))=some (r1,r2)):=⟨by rw[List.drop_zero];exact H1⟩
   have HS2:Aside0 ((acc++aW.bt l.length).size < 140737488355327):=⟨by rw[aW.size];exact h5⟩
   clear H H1 h5 hli hdrop;have HBr:Aside0 (Below w.heap.size w wr):=⟨below_then HB5.out HB5.out.size HBw.out⟩
   have p9:0≤(i:Int):=by omega
   obtain⟨ad9,A9,c9,e9,hx9,hl9,hC9⟩:=at_L22 HR.out (i:Int) p9 hltz;rw[←hl] at hx9 hl9 hC9;clear hl;cases e9
   replace hx9:=(HBr.out.cell (zCq w _ hx9)).trans hx9;simp only[Int.toNat_natCast] at hx9;have hsl:l.length≤9223372036854775807:=hC9.2.1;have HC9:=zA hC9;have HSL:=zA hsl;clear hC9 hl9;go_wp2_with (first
    |(go_at_call 109;refine(WriteByte_k w5.heap.size w5.heap.size (Lib.strCells acc) _ _ HI.out (by have:=HS.out;rw[Lib.strCells_length];omega) HBw.out.size).mono ?_;rintro e w7 ⟨rfl,hI7,hb7,_⟩;have HI7:Aside0 (Lib.IsBuilderF 187 5 w5.heap.size w5.heap.size (Lib.strCells (acc++aW.bt l.length)) w7):=⟨.inr (by rw[←aW.cells];exact hI7)⟩;have HB7:=zA (HBw.out.trans hb7);clear hx9 hI7 hb7))
   go_loopg[35] l.length (fun gk2 v35 wr2=> ∃ (j:Nat) (acc2:ByteArray),v35= .int .i64 j∧j≤l.length∧l.length - j≤gk2∧Aside0 (((aW.rows k (l.drop j) acc2).bind fun q=>if q.2=0 then aW.tabs k (l0_0.drop (i+1)) q.1 else some (⟨#[]⟩,q.2))=some (r1,r2))∧Aside0 (acc2.size < 140737488355327)∧Aside0 (Lib.IsBuilderF 187 5 w5.heap.size w5.heap.size (Lib.strCells acc2) wr2)∧Aside0 (Below w5.heap.size w5 wr2))
   case atStart=>exact⟨0,_,by go_num,Nat.zero_le _,by omega,H2,HS2,HI7,HB7⟩
   case round=>
    clear H2 HS2 HI7 HB7 HI HBw HBr HS;obtain⟨j,acc2,rfl,hj,hgk2,H,HS,HI,HBw⟩:=hrel;have hsl2:=HSL.out;have HBr:Aside0 (Below w.heap.size w wr):=⟨below_then HB5.out HB5.out.size HBw.out⟩
    by_cases hlt2:j < l.length
    ·have hlt2z:(j:Int) < (l.length:Int):=by omega
     have hw35:IntKind.i64.wrap ((j:Int)+1)=((j+1:Nat):Int):=by rw[IntWalk.i64_in _ (by omega)];rfl
     obtain⟨x,hx⟩: ∃ x,x=rd_T164 l (j:Int):=⟨_,rfl⟩
     have hxj:x=l[j] :=by rw[hx];unfold rd_T164;simp[hlt2]
     have hdrop:l.drop j=x::l.drop (j+1):=by rw[hxj];exact List.drop_eq_getElem_cons hlt2
     obtain⟨q,hq,hrest⟩:=Option.bind_eq_some_iff.1 H.out;rw[hdrop] at hq;simp only[aW.rows] at hq;obtain⟨⟨s,e⟩,hrow,hq⟩:=Option.bind_eq_some_iff.1 hq;dsimp only at hq;have Hrow:=zA hrow;clear H hrow hxj hdrop;have p10:0≤(j:Int):=by omega
     obtain⟨ad10,e10,hx10,hx11⟩:=at_T164 HC9.out (j:Int) p10 hlt2z;rw[←hx] at hx10 hx11;clear hx;cases e10
     replace hx10:=(HBr.out.cell (zCq w _ hx10)).trans hx10;replace hx11:=(HBr.out.cell (zCq w _ hx11)).trans hx11;simp only[Int.toNat_natCast] at hx10 hx11;by_cases h6:e=0
     ·subst h6
      rw[if_pos rfl] at hq;by_cases h7:acc2.size+s.size < 140737488355327
      case neg=>rw[if_neg h7] at hq;cases hq
      rw[if_pos h7] at hq;have H2:Aside0 (((aW.rows k (l.drop (j+1)) (acc2++s)).bind fun q=>if q.2=0 then aW.tabs k (l0_0.drop (i+1)) q.1 else some (⟨#[]⟩,q.2))=some (r1,r2)):=⟨by rw[hq];exact hrest⟩
      have H7:=zA h7;clear hq hrest h7;go_wp2_with (first
       |((with_reducible refine gate_dst (N:=9) rfl ?_);refine box_event qr (N:=9) qr (cs:= #[.int .i64 0,.string ⟨#[]⟩]) (t:=164) qg ?_;intro gb9 hg w8 hbox hb;have HBX:=zA hb;have BK9:=zA hbox;have GEX:Aside0 (wr.heap.size≤gb9):=⟨by rw[hg];exact Nat.le_refl _⟩;clear hb hbox hg;obtain⟨hcz9_0,hcz9_1,hfz9_0,hfz9_1⟩:=qc2f BK9.out)
       |(go_at_call 110;refine(cK.calls k _ _ _ _ _ Hrow.out).mono ?_;rintro e w10 ⟨rfl,hb10⟩;have hx12:=below_then (show Below wr.heap.size wr _ by repeat(first|exact HBX.out|refine zE ?_ GEX.out)) (show wr.heap.size≤_ by have:=HBX.out.size;simpa using this) hb10;have HI10:=zA (HI.out.below hx12);have HB10:=zA (below_then HBw.out HBw.out.size hx12);clear hx12 hb10)
       |(go_at_call 111;refine(WriteString_k w5.heap.size w5.heap.size (Lib.strCells acc2) s _ HI10.out (by have:=H7.out;rw[Lib.strCells_length];omega) HB10.out.size).mono ?_;rintro e w12 ⟨rfl,hI12,hb12,_⟩;have HI12:Aside0 (Lib.IsBuilderF 187 5 w5.heap.size w5.heap.size (Lib.strCells (acc2++s)) w12):=⟨.inr (by have:=hI12;simpa [Lib.strCells,ByteArray.data_append] using this)⟩;have HB12:=zA (HB10.out.trans hb12);clear hI12 hb12))
      go_roundg (l.length - (j+1))
      case measure=>omega
      case rel=>exact⟨j+1,acc2++s,by go_num,by omega,by omega,H2,⟨by have:=H7.out;rw[ByteArray.size_append];exact this⟩,HI12,HB12⟩
     rw[if_neg h6] at hq;obtain rfl:=zKq hq;dsimp only at hrest;rw[if_neg h6] at hrest;simp only[zNq,zOq] at hrest;obtain⟨rfl,rfl⟩:=hrest;have h6':(e != 0)=true:=bne_iff_ne.2 h6;have h6'':(e==0)=false:=beq_eq_false_iff_ne.2 h6;clear hq h6;go_wp2_with (first
      |((with_reducible refine gate_dst (N:=9) rfl ?_);refine box_event qr (N:=9) qr (cs:= #[.int .i64 0,.string ⟨#[]⟩]) (t:=164) qg ?_;intro gb9 hg w8 hbox hb;have HBX:=zA hb;have BK9:=zA hbox;have GEX:Aside0 (wr.heap.size≤gb9):=⟨by rw[hg];exact Nat.le_refl _⟩;clear hb hbox hg;obtain⟨hcz9_0,hcz9_1,hfz9_0,hfz9_1⟩:=qc2f BK9.out)
      |(go_at_call 110;refine(cK.calls k _ _ _ _ _ Hrow.out).mono ?_;rintro e w10 ⟨rfl,hb10⟩;have hx12:=below_then (show Below wr.heap.size wr _ by repeat(first|exact HBX.out|refine zE ?_ GEX.out)) (show wr.heap.size≤_ by have:=HBX.out.size;simpa using this) hb10;have HB10:=zA (below_then HBw.out HBw.out.size hx12);clear hx12 hb10))
     go_ret2;exact⟨rfl,below_then HB5.out HB5.out.size HB10.out⟩
    have hlt2z: ¬ (j:Int) < (l.length:Int):=by omega
    have hjl:j=l.length:=by omega
    have H2:Aside0 (aW.tabs k (l0_0.drop (i+1)) acc2=some (r1,r2)):=⟨by have:=H.out;rw[hjl,List.drop_length] at this;exact this⟩
    clear H hjl;go_wp2;go_roundg (l0_0.length - (i+1))
    case measure=>omega
    case rel=>exact⟨i+1,acc2,by go_num,by omega,by omega,H2,HS,HI,HBw⟩
  have hltz: ¬ (i:Int) < (l0_0.length:Int):=by omega
  have hil:i=l0_0.length:=by omega
  have hr:some (acc,(0:Int))=some (r1,r2):=by have:=H.out;rw[hil,List.drop_length] at this;exact this
  simp only[zNq,zOq] at hr;obtain⟨rfl,rfl⟩:=hr;clear hil;go_wp2_with (go_at_call 112;refine(Try.Builder_String_any_k w5.heap.size w5.heap.size acc.data.toList _ HI.out HBw.out.size).mono ?_;rintro e w13 ⟨rfl,_,hb13,_⟩;have HB13:=zA hb13;clear hb13);go_ret2;exact⟨by simp,below_then HB5.out HB5.out.size (HBw.out.trans HB13.out)⟩
end Go.Proofs.Ytdpcgigjlcpofaa.F
namespace Go.Proofs.Ytdpcgigjlcpofaa.F
open Go.RowKit Go.Proofs.YtdpcgigjlcpofaaX Go.Proofs.YtdpcgigjlcpofaaW.PrintWords Go.Proofs.YtdpcgigjlcpofaaW.PrintLast Go.Proofs.YtdpcgigjlcpofaaW.PrintMore
attribute [local go_sem] max2_int min2_int max_two min_two max_three min_three max_four min_four
attribute [local go_sem high] str_geq str_leq str_gtr
set_option linter.unusedVariables false
set_option linter.unusedSimpArgs false
def IsS31 (w0 W:World) (g:Nat) (f0:ByteArray) (f1:Int) (f2:Option (Int × Int)) (f3:Bool):Prop:=W.heap[g]? =some (.cells #[.string f0,.int .i64 f1,errW f2,.bool f3] 31 (0,0))∧w0.heap.size≤g
theorem IsS31.grown {w0 W:World} {g:Nat} {f0:ByteArray} {f1:Int} {f2:Option (Int × Int)} {f3:Bool} {W1:World} {row:Option Nat} (h:IsS31 w0 W g f0 f1 f2 f3) (hw:W.grownBy W1 row) (hne:some g≠row):IsS31 w0 W1 g f0 f1 f2 f3:=by
  obtain⟨hb,hg⟩:=h
  exact⟨blk_grown hb hw hne,hg⟩
theorem IsS31.kept {w0 W:World} {g:Nat} {f0:ByteArray} {f1:Int} {f2:Option (Int × Int)} {f3:Bool} {W1:World} {S:Nat→Prop} (h:IsS31 w0 W g f0 f1 f2 f3) (hk:Kept W W1 S) (hne: ¬ S g):IsS31 w0 W1 g f0 f1 f2 f3:=by
  obtain⟨hb,hg⟩:=h
  exact⟨blk_kept hb hk hne,hg⟩
theorem IsS31.below {w0 W:World} {g:Nat} {f0:ByteArray} {f1:Int} {f2:Option (Int × Int)} {f3:Bool} {W1:World} (h:IsS31 w0 W g f0 f1 f2 f3) (hw:Below W.heap.size W W1):IsS31 w0 W1 g f0 f1 f2 f3:=h.grown (grown_of_below hw none) (by simp)
theorem IsS31.alloc {w0 W:World} {g:Nat} {f0:ByteArray} {f1:Int} {f2:Option (Int × Int)} {f3:Bool} (h:IsS31 w0 W g f0 f1 f2 f3) (o:Obj):IsS31 w0 (W.alloc o) g f0 f1 f2 f3:=h.below (zD (Below.refl _ _) o)
theorem IsS31.drewN {w0 W:World} {g:Nat} {f0:ByteArray} {f1:Int} {f2:Option (Int × Int)} {f3:Bool} (h:IsS31 w0 W g f0 f1 f2 f3) (m:Nat):IsS31 w0 (W.drewN m) g f0 f1 f2 f3:=h
theorem IsS31.drew {w0 W:World} {g:Nat} {f0:ByteArray} {f1:Int} {f2:Option (Int × Int)} {f3:Bool} (h:IsS31 w0 W g f0 f1 f2 f3):IsS31 w0 W.drew g f0 f1 f2 f3:=h
theorem IsS31.at_ {w0 W:World} {g:Nat} {f0:ByteArray} {f1:Int} {f2:Option (Int × Int)} {f3:Bool} {w':World} {m:Nat} (hq:W.drewN m=w') (h:IsS31 w0 W g f0 f1 f2 f3):IsS31 w0 w' g f0 f1 f2 f3:=by subst hq;exact IsS31.drewN h m
theorem IsS31.apart {w0 W:World} {g:Nat} {f0:ByteArray} {f1:Int} {f2:Option (Int × Int)} {f3:Bool} {α:Type} {d:Kd α} {e:Nat} {base:Nat} {ok:Nat→Prop} {v:Value} {xs:List α} (h:IsS31 w0 W g f0 f1 f2 f3) (ho:d.R e W base ok v xs) (ht: ∀ q,q ∈ e::d.E→q≠31):d.R e W base (fun k=>ok k∧k≠g) v xs:=by
  obtain⟨hb,hg⟩:=h
  exact Kd.R_types ho hb ht
theorem IsS31.own_ne {w0 W:World} {g:Nat} {f0:ByteArray} {f1:Int} {f2:Option (Int × Int)} {f3:Bool} {α:Type} {d:Kd α} {e:Nat} {base:Nat} {ok:Nat→Prop} {v:Value} {xs:List α} (h:IsS31 w0 W g f0 f1 f2 f3) (ho:d.R e W base ok v xs) (ht:e≠31):some g≠v.ownBlock:=by
  obtain⟨hb,hg⟩:=h
  exact Kd.R_ne ho hb ht
theorem IsS31.apartS {w0 W:World} {g:Nat} {f0:ByteArray} {f1:Int} {f2:Option (Int × Int)} {f3:Bool} {α:Type} {d:Kd α} {e:Nat} {base:Nat} {ok:Nat→Prop} {v:Value} {xs:List α} (h:IsS31 w0 W g f0 f1 f2 f3) (ho:d.S e W base ok v xs) (ht: ∀ q,q ∈ e::d.E→q≠31):d.S e W base (fun k=>ok k∧k≠g) v xs:=by
  obtain⟨hb,hg⟩:=h
  exact Kd.S_types ho hb ht
theorem IsS31.own_neS {w0 W:World} {g:Nat} {f0:ByteArray} {f1:Int} {f2:Option (Int × Int)} {f3:Bool} {α:Type} {d:Kd α} {e:Nat} {base:Nat} {ok:Nat→Prop} {v:Value} {xs:List α} (h:IsS31 w0 W g f0 f1 f2 f3) (ho:d.S e W base ok v xs) (ht:e≠31):some g≠v.ownBlock:=by
  obtain⟨hb,hg⟩:=h
  exact Kd.S_ne ho hb ht
theorem IsS31.lt {w0 W:World} {g:Nat} {f0:ByteArray} {f1:Int} {f2:Option (Int × Int)} {f3:Bool} (h:IsS31 w0 W g f0 f1 f2 f3):g < W.heap.size:=by
  obtain⟨hb,hg⟩:=h
  exact blk_lt hb
theorem IsS31.ge {w0 W:World} {g:Nat} {f0:ByteArray} {f1:Int} {f2:Option (Int × Int)} {f3:Bool} (h:IsS31 w0 W g f0 f1 f2 f3):w0.heap.size≤g:=by
  obtain⟨hb,hg⟩:=h
  exact hg
theorem IsS31.ne_blk {w0 W:World} {g:Nat} {f0:ByteArray} {f1:Int} {f2:Option (Int × Int)} {f3:Bool} {a:Nat} {cs:Array Value} {t:TypeId} {fr:Nat × Nat} (h:IsS31 w0 W g f0 f1 f2 f3) (hb2:W.heap[a]? =some (.cells cs t fr)) (ht:t≠31):g≠a:=by
  obtain⟨hb,hg⟩:=h
  rintro rfl
  rw[hb] at hb2
  injection hb2 with hb2
  injection hb2 with _ ht2
  exact ht ht2.symm
theorem IsS31.far {w0 W:World} {g:Nat} {f0:ByteArray} {f1:Int} {f2:Option (Int × Int)} {f3:Bool} {p:Addr} (h:IsS31 w0 W g f0 f1 f2 f3) (hne:g≠p.block) (u:Value):IsS31 w0 (W.setCell p u) g f0 f1 f2 f3:=by
  obtain⟨hb,hg⟩:=h
  exact⟨blk_far hb hne u,hg⟩
theorem cellS31_0 {W:World} {g:Nat} {f0:ByteArray} {f1:Int} {f2:Option (Int × Int)} {f3:Bool} (h:W.heap[g]? =some (.cells #[.string f0,.int .i64 f1,errW f2,.bool f3] 31 (0,0))):W.cell? ⟨g,0,none⟩=some (.string f0):=(zF h 0).trans rfl
theorem IsS31.set_0 {w0 W:World} {g:Nat} {f0:ByteArray} {f1:Int} {f2:Option (Int × Int)} {f3:Bool} (h:IsS31 w0 W g f0 f1 f2 f3) (x:ByteArray):IsS31 w0 (W.setCell ⟨g,0,none⟩ (.string x)) g x f1 f2 f3:=by
  obtain⟨hb,hg⟩:=h
  exact⟨by simpa using blk_set hb 0 (.string x),hg⟩
theorem cellS31_1 {W:World} {g:Nat} {f0:ByteArray} {f1:Int} {f2:Option (Int × Int)} {f3:Bool} (h:W.heap[g]? =some (.cells #[.string f0,.int .i64 f1,errW f2,.bool f3] 31 (0,0))):W.cell? ⟨g,1,none⟩=some (.int .i64 f1):=(zF h 1).trans rfl
theorem IsS31.set_1 {w0 W:World} {g:Nat} {f0:ByteArray} {f1:Int} {f2:Option (Int × Int)} {f3:Bool} (h:IsS31 w0 W g f0 f1 f2 f3) (x:Int):IsS31 w0 (W.setCell ⟨g,1,none⟩ (.int .i64 x)) g f0 x f2 f3:=by
  obtain⟨hb,hg⟩:=h
  exact⟨by simpa using blk_set hb 1 (.int .i64 x),hg⟩
theorem cellS31_2 {W:World} {g:Nat} {f0:ByteArray} {f1:Int} {f2:Option (Int × Int)} {f3:Bool} (h:W.heap[g]? =some (.cells #[.string f0,.int .i64 f1,errW f2,.bool f3] 31 (0,0))):W.cell? ⟨g,2,none⟩=some (errW f2):=(zF h 2).trans rfl
theorem IsS31.set_2 {w0 W:World} {g:Nat} {f0:ByteArray} {f1:Int} {f2:Option (Int × Int)} {f3:Bool} (h:IsS31 w0 W g f0 f1 f2 f3) (x:Option (Int × Int)):IsS31 w0 (W.setCell ⟨g,2,none⟩ (errW x)) g f0 f1 x f3:=by
  obtain⟨hb,hg⟩:=h
  exact⟨by simpa using blk_set hb 2 (errW x),hg⟩
theorem IsS31.sete_2 {w0 W:World} {g:Nat} {f0:ByteArray} {f1:Int} {f2:Option (Int × Int)} {f3:Bool} {v_:Value} (h:IsS31 w0 W g f0 f1 f2 f3) (x:Option (Int × Int)) (hv_:v_=errW x):IsS31 w0 (W.setCell ⟨g,2,none⟩ v_) g f0 f1 x f3:=by
  subst hv_
  exact IsS31.set_2 h x
theorem cellS31_3 {W:World} {g:Nat} {f0:ByteArray} {f1:Int} {f2:Option (Int × Int)} {f3:Bool} (h:W.heap[g]? =some (.cells #[.string f0,.int .i64 f1,errW f2,.bool f3] 31 (0,0))):W.cell? ⟨g,3,none⟩=some (.bool f3):=(zF h 3).trans rfl
theorem IsS31.set_3 {w0 W:World} {g:Nat} {f0:ByteArray} {f1:Int} {f2:Option (Int × Int)} {f3:Bool} (h:IsS31 w0 W g f0 f1 f2 f3) (x:Bool):IsS31 w0 (W.setCell ⟨g,3,none⟩ (.bool x)) g f0 f1 f2 x:=by
  obtain⟨hb,hg⟩:=h
  exact⟨by simpa using blk_set hb 3 (.bool x),hg⟩
def dA.f (a0:ByteArray):Option (ByteArray × Int × Option (Int × Int) × Bool):=some (a0,0,none,true)
theorem dA.calls (a0:ByteArray) (r1:ByteArray) (r2:Int) (r3:Option (Int × Int)) (r4:Bool) (w0 w:World) (hB:Below w0.heap.size w0 w) (h:dA.f a0=some (r1,r2,r3,r4)):
  Calls Try.prog 14 #[.string a0] w fun e w'=> ∃ g_:Nat,e= .returned (.pointer (some ⟨g_,0,none⟩))∧IsS31 w0 w' g_ r1 r2 r3 r4∧Below w0.heap.size w0 w'∧Below w.heap.size w w':=by
 have hu31:=Try.underlying31
 have HBW:=zA (Below.refl w.heap.size w)
 have HW0:=zA hB.size
 have HB:=zA hB
 clear hB
 have H:(some (a0,0,none,true))=some (r1,r2,r3,r4):=h
 clear h
 simp only[zNq,zOq] at H
 obtain⟨rfl,rfl,rfl,rfl⟩:=H
 go_enter Try.func14,Try.ntmps14
 go_wp2_with (first|((with_reducible refine gate_dst (N:=5) rfl ?_);refine box_event qr (N:=5) qr (cs:= #[.string a0,.int .i64 0,errW none,.bool true]) (t:=31) qg ?_;intro gb101 hg w2 hbox hb;replace HB:=zA (zV (qT HB.out) hb);have BK101:=zA (hbox);have GW101:=zA ((by rw[hg];exact(zW (by repeat(first|(with_reducible first|exact HBW.out|apply zD|apply zB|apply zC)|exact HBW.out))):w.heap.size≤gb101));have GE101:=zA ((Nat.le_trans HW0.out (by rw[hg];exact(zW (by repeat(first|(with_reducible first|exact HBW.out|apply zD|apply zB|apply zC)|exact HBW.out))):w.heap.size≤gb101):w0.heap.size≤gb101));replace HBW:=zA (zV HBW.out hb);clear hb hbox hg))
 go_ret
 exact⟨_,rfl,(show IsS31 w0 _ gb101 a0 0 none true from⟨by exact BK101.out,GE101.out⟩),(qT HB.out),by repeat(first|(with_reducible first|exact HBW.out|apply zD|apply zB|apply zC|refine zE ?_ GW101.out)|exact HBW.out)⟩
end Go.Proofs.Ytdpcgigjlcpofaa.F
namespace Go.Proofs.Ytdpcgigjlcpofaa.F
open Go.RowKit Go.Proofs.YtdpcgigjlcpofaaX Go.Proofs.YtdpcgigjlcpofaaW.PrintWords Go.Proofs.YtdpcgigjlcpofaaW.PrintLast Go.Proofs.YtdpcgigjlcpofaaW.PrintMore
attribute [local go_sem] max2_int min2_int max_two min_two max_three min_three max_four min_four
attribute [local go_sem high] str_geq str_leq str_gtr
set_option linter.unusedVariables false
set_option linter.unusedSimpArgs false
def cY.f (a0:Option (Int × Int)):Option (Int × Int):=if a0.isNone=true then(some (0,0))else(some ((a0.getD (0,0)).1,(a0.getD (0,0)).2))
theorem cY.calls (a0:Option (Int × Int)) (r1:Int) (r2:Int) (w:World) (h:cY.f a0=some (r1,r2)):
  Calls Try.prog 16 #[errW a0] w fun e w'=>e= .returned (.tuple #[.int .i64 r1,.int .i64 r2])∧Below w.heap.size w w':=by
 have hu115:=Try.underlying115
 have hu29:=Try.underlying29
 have hta: ∀ (v:Value) (W:World),(Instr.typeAssert (.iface 115 v) 29 115 true).run Try.prog W= .ok (.tuple #[v,.bool true]) W:=fun v W=>by rfl
 have HB:=zA (Below.refl w.heap.size w)
 have H:(if a0.isNone=true then(some (0,0))else(some ((a0.getD (0,0)).1,(a0.getD (0,0)).2)))=some (r1,r2):=h
 clear h
 rcases a0 with _|q101
 ·have H1:(some (0,0))=some (r1,r2):=by first|(rw[if_pos (show(none:Option (Int × Int)).isNone=true by rfl)] at H;exact H)|rfl
  clear H;have H:=H1;clear H1;simp only[errW_none,errW_some];simp only[zNq,zOq] at H;obtain⟨rfl,rfl⟩:=H;go_enter Try.func16,Try.ntmps16;go_wp2;repeat(go_quiet (fail);try go_wp2)
  go_ret2;exact⟨qE,qB⟩
 have H1:(some (q101.1,q101.2))=some (r1,r2):=by first|(rw[if_neg (show ¬ (some q101).isNone=true by simp)] at H;exact H)|rfl
 clear H
 have H:=H1
 clear H1
 simp only[errW_none,errW_some]
 simp only[zNq,zOq] at H
 obtain⟨rfl,rfl⟩:=H
 go_enter Try.func16,Try.ntmps16
 go_wp2_with (first|((with_reducible refine gate_dst (N:=4) rfl ?_);refine box_event qr (N:=4) qr (cs:= #[.int .i64 0,.int .i64 0]) (t:=115) qg ?_;intro gb102 hg w2 hbox hb;have BK102:=zA (hbox);have GW102:=zA ((qS:w.heap.size≤gb102));have GE102:=zA ((qS:w.heap.size≤gb102));replace HB:=zA (zV qB hb);clear hb hbox hg;obtain⟨hcz3_0,hcz3_1,hfz3_0,hfz3_1⟩:=qc2f BK102.out))
 repeat(go_quiet (first|((with_reducible refine gate_dst (N:=4) rfl ?_);refine box_event qr (N:=4) qr (cs:= #[.int .i64 0,.int .i64 0]) (t:=115) qg ?_;intro gb102 hg w2 hbox hb;have BK102:=zA (hbox);have GW102:=zA ((qS:w.heap.size≤gb102));have GE102:=zA ((qS:w.heap.size≤gb102));replace HB:=zA (zV qB hb);clear hb hbox hg;obtain⟨hcz3_0,hcz3_1,hfz3_0,hfz3_1⟩:=qc2f BK102.out));try go_wp2_with (first|((with_reducible refine gate_dst (N:=4) rfl ?_);refine box_event qr (N:=4) qr (cs:= #[.int .i64 0,.int .i64 0]) (t:=115) qg ?_;intro gb102 hg w2 hbox hb;have BK102:=zA (hbox);have GW102:=zA ((qS:w.heap.size≤gb102));have GE102:=zA ((qS:w.heap.size≤gb102));replace HB:=zA (zV qB hb);clear hb hbox hg;obtain⟨hcz3_0,hcz3_1,hfz3_0,hfz3_1⟩:=qc2f BK102.out)))
 go_ret2
 exact⟨qE,qB⟩
end Go.Proofs.Ytdpcgigjlcpofaa.F
namespace Go.Proofs.Ytdpcgigjlcpofaa.F
open Go.RowKit Go.Proofs.YtdpcgigjlcpofaaX Go.Proofs.YtdpcgigjlcpofaaW.PrintWords Go.Proofs.YtdpcgigjlcpofaaW.PrintLast Go.Proofs.YtdpcgigjlcpofaaW.PrintMore
attribute [local go_sem] max2_int min2_int max_two min_two max_three min_three max_four min_four
attribute [local go_sem high] str_geq str_leq str_gtr
set_option linter.unusedVariables false
set_option linter.unusedSimpArgs false
def cH.f (s0_0:ByteArray) (s0_1:Int) (s0_2:Option (Int × Int)) (s0_3:Bool):Option (Option (Int × Int) × ByteArray × Int × Option (Int × Int) × Bool):=if s0_3=true then(some (s0_2,s0_0,s0_1,s0_2,s0_3))else(some (some (1,0),s0_0,s0_1,s0_2,s0_3))
theorem cH.same {s0_0:ByteArray} {s0_1:Int} {s0_2:Option (Int × Int)} {s0_3:Bool} {r_:Option (Int × Int)} {s0_0_:ByteArray} {s0_1_:Int} {s0_2_:Option (Int × Int)} {s0_3_:Bool} (h:cH.f s0_0 s0_1 s0_2 s0_3=some (r_,s0_0_,s0_1_,s0_2_,s0_3_)):s0_0_=s0_0∧s0_1_=s0_1∧s0_2_=s0_2∧s0_3_=s0_3:=by
  rcases s0_2 with _|q_ <;> cases s0_3 <;> cases h <;> exact⟨rfl,rfl,rfl,rfl⟩
theorem cH.calls (g:Nat) (s0_0:ByteArray) (s0_1:Int) (s0_2:Option (Int × Int)) (s0_3:Bool) (r1:Option (Int × Int)) (r2:ByteArray) (r3:Int) (r4:Option (Int × Int)) (r5:Bool) (w0 w:World) (hI:IsS31 w0 w g s0_0 s0_1 s0_2 s0_3) (hB:Below w0.heap.size w0 w) (h:cH.f s0_0 s0_1 s0_2 s0_3=some (r1,r2,r3,r4,r5)):
  Calls Try.prog 17 #[.pointer (some ⟨g,0,none⟩)] w fun e w'=>e= .returned (errW r1)∧IsS31 w0 w' g r2 r3 r4 r5∧Below w0.heap.size w0 w'∧KeepBut w w' g none:=by
 have hu115:=Try.underlying115
 have hu29:=Try.underlying29
 have HI0:=zA hI
 have HK:=zA (KeepBut.refl w g none)
 have HL:=zA hB.size
 clear hI
 have HW0:=zA hB.size
 have HB:=zA hB
 clear hB
 have H:(if s0_3=true then(some (s0_2,s0_0,s0_1,s0_2,s0_3))else(some (some (1,0),s0_0,s0_1,s0_2,s0_3)))=some (r1,r2,r3,r4,r5):=h
 clear h
 by_cases c2:s0_3=true
 ·subst c2
  have H1:(some (s0_2,s0_0,s0_1,s0_2,true))=some (r1,r2,r3,r4,r5):=by first|(rw[if_pos rfl] at H;exact H)|rfl
  clear H;have H:=H1;clear H1;simp only[zNq,zOq] at H;obtain⟨rfl,rfl,rfl,rfl,rfl⟩:=H;obtain⟨HGz3,hgz3⟩:=HI0.out;have hcz3_0:=cellS31_0 HGz3;have hcz3_1:=cellS31_1 HGz3;have hcz3_2:=cellS31_2 HGz3;have hcz3_3:=cellS31_3 HGz3;have hfz3_0:=zG HGz3 0;have hfz3_1:=zG HGz3 1;have hfz3_2:=zG HGz3 2;have hfz3_3:=zG HGz3 3;clear HGz3 hgz3;try simp only[errW_none,errW_some] at hcz3_2
  go_enter Try.func17,Try.ntmps17;go_wp2;go_ret;exact⟨qE,by repeat(first|(with_reducible first|exact HI0.out|apply IsS31.alloc|apply IsS31.drewN|apply IsS31.drew)|exact HI0.out),qH HI0.out HB.out,qJ HK.out⟩
 replace c2:=Bool.eq_false_iff.mpr c2
 subst c2
 have H1:(some (some (1,0),s0_0,s0_1,s0_2,false))=some (r1,r2,r3,r4,r5):=by first|(rw[if_neg (show ¬ (false=true) by decide)] at H;exact H)|rfl
 clear H
 have H:=H1
 clear H1
 simp only[zNq,zOq] at H
 obtain⟨rfl,rfl,rfl,rfl,rfl⟩:=H
 obtain⟨HGz4,hgz4⟩:=HI0.out
 have hcz4_0:=cellS31_0 HGz4;have hcz4_1:=cellS31_1 HGz4;have hcz4_2:=cellS31_2 HGz4;have hcz4_3:=cellS31_3 HGz4;have hfz4_0:=zG HGz4 0;have hfz4_1:=zG HGz4 1;have hfz4_2:=zG HGz4 2;have hfz4_3:=zG HGz4 3;clear HGz4 hgz4
 try simp only[errW_none,errW_some] at hcz4_2
 go_enter Try.func17,Try.ntmps17
 go_wp2
 go_ret
 exact⟨qE,by repeat(first|(with_reducible first|exact HI0.out|apply IsS31.alloc|apply IsS31.drewN|apply IsS31.drew)|exact HI0.out),qH HI0.out HB.out,qJ HK.out⟩
end Go.Proofs.Ytdpcgigjlcpofaa.F
namespace Go.Proofs.Ytdpcgigjlcpofaa.F
open Go.RowKit Go.Proofs.YtdpcgigjlcpofaaX Go.Proofs.YtdpcgigjlcpofaaW.PrintWords Go.Proofs.YtdpcgigjlcpofaaW.PrintLast Go.Proofs.YtdpcgigjlcpofaaW.PrintMore
attribute [local go_sem] max2_int min2_int max_two min_two max_three min_three max_four min_four
attribute [local go_sem high] str_geq str_leq str_gtr
set_option linter.unusedVariables false
set_option linter.unusedSimpArgs false
def bP.f (s0_0:ByteArray) (s0_1:Int) (s0_2:Option (Int × Int)) (s0_3:Bool):Option (Bool × ByteArray × Int × Option (Int × Int) × Bool):=if s0_3=true then(if s0_2.isNone=true then(some (true,s0_0,s0_1,none,s0_3))else(some (false,s0_0,s0_1,some (s0_2.getD (0,0)),s0_3)))else(some (false,s0_0,s0_1,s0_2,s0_3))
theorem bP.same {s0_0:ByteArray} {s0_1:Int} {s0_2:Option (Int × Int)} {s0_3:Bool} {r_:Bool} {s0_0_:ByteArray} {s0_1_:Int} {s0_2_:Option (Int × Int)} {s0_3_:Bool} (h:bP.f s0_0 s0_1 s0_2 s0_3=some (r_,s0_0_,s0_1_,s0_2_,s0_3_)):s0_0_=s0_0∧s0_1_=s0_1∧s0_2_=s0_2∧s0_3_=s0_3:=by
  rcases s0_2 with _|q_ <;> cases s0_3 <;> cases h <;> exact⟨rfl,rfl,rfl,rfl⟩
theorem bP.calls (g:Nat) (s0_0:ByteArray) (s0_1:Int) (s0_2:Option (Int × Int)) (s0_3:Bool) (r1:Bool) (r2:ByteArray) (r3:Int) (r4:Option (Int × Int)) (r5:Bool) (w0 w:World) (hI:IsS31 w0 w g s0_0 s0_1 s0_2 s0_3) (hB:Below w0.heap.size w0 w) (h:bP.f s0_0 s0_1 s0_2 s0_3=some (r1,r2,r3,r4,r5)):
  Calls Try.prog 72 #[.pointer (some ⟨g,0,none⟩)] w fun e w'=>e= .returned (.bool r1)∧IsS31 w0 w' g r2 r3 r4 r5∧Below w0.heap.size w0 w'∧KeepBut w w' g none:=by
 have hu29:=Try.underlying29
 have hu115:=Try.underlying115
 have HI0:=zA hI
 have HK:=zA (KeepBut.refl w g none)
 have HL:=zA hB.size
 clear hI
 have HW0:=zA hB.size
 have HB:=zA hB
 clear hB
 have H:(if s0_3=true then(if s0_2.isNone=true then(some (true,s0_0,s0_1,none,s0_3))else(some (false,s0_0,s0_1,some (s0_2.getD (0,0)),s0_3)))else(some (false,s0_0,s0_1,s0_2,s0_3)))=some (r1,r2,r3,r4,r5):=h
 clear h
 by_cases c2:s0_3=true
 ·subst c2
  have H1:(if s0_2.isNone=true then(some (true,s0_0,s0_1,none,true))else(some (false,s0_0,s0_1,some (s0_2.getD (0,0)),true)))=some (r1,r2,r3,r4,r5):=by first|(rw[if_pos rfl] at H;exact H)|rfl
  clear H;have H:=H1;clear H1;rcases s0_2 with _|q101
  ·have H1:(some (true,s0_0,s0_1,none,true))=some (r1,r2,r3,r4,r5):=by first|(rw[if_pos (show(none:Option (Int × Int)).isNone=true by rfl)] at H;exact H)|rfl
   clear H;have H:=H1;clear H1;try simp only[errW_none,errW_some]
   simp only[zNq,zOq] at H;obtain⟨rfl,rfl,rfl,rfl,rfl⟩:=H;obtain⟨HGz3,hgz3⟩:=HI0.out;have hcz3_0:=cellS31_0 HGz3;have hcz3_1:=cellS31_1 HGz3;have hcz3_2:=cellS31_2 HGz3;have hcz3_3:=cellS31_3 HGz3;have hfz3_0:=zG HGz3 0;have hfz3_1:=zG HGz3 1;have hfz3_2:=zG HGz3 2;have hfz3_3:=zG HGz3 3;clear HGz3 hgz3;try simp only[errW_none,errW_some] at hcz3_2
   go_enter Try.func72,Try.ntmps72;go_wp2;go_ret;exact⟨qE,by repeat(first|(with_reducible first|exact HI0.out|apply IsS31.alloc|apply IsS31.drewN|apply IsS31.drew)|exact HI0.out),qH HI0.out HB.out,qJ HK.out⟩
  have H1:(some (false,s0_0,s0_1,some q101,true))=some (r1,r2,r3,r4,r5):=by first|(rw[if_neg (show ¬ (some q101).isNone=true by simp)] at H;exact H)|rfl
  clear H;have H:=H1;clear H1;try simp only[errW_none,errW_some]
  simp only[zNq,zOq] at H;obtain⟨rfl,rfl,rfl,rfl,rfl⟩:=H;obtain⟨HGz4,hgz4⟩:=HI0.out;have hcz4_0:=cellS31_0 HGz4;have hcz4_1:=cellS31_1 HGz4;have hcz4_2:=cellS31_2 HGz4;have hcz4_3:=cellS31_3 HGz4;have hfz4_0:=zG HGz4 0;have hfz4_1:=zG HGz4 1;have hfz4_2:=zG HGz4 2;have hfz4_3:=zG HGz4 3;clear HGz4 hgz4;try simp only[errW_none,errW_some] at hcz4_2
  go_enter Try.func72,Try.ntmps72;go_wp2;go_ret;exact⟨qE,by repeat(first|(with_reducible first|exact HI0.out|apply IsS31.alloc|apply IsS31.drewN|apply IsS31.drew)|exact HI0.out),qH HI0.out HB.out,qJ HK.out⟩
 replace c2:=Bool.eq_false_iff.mpr c2
 subst c2
 have H1:(some (false,s0_0,s0_1,s0_2,false))=some (r1,r2,r3,r4,r5):=by first|(rw[if_neg (show ¬ (false=true) by decide)] at H;exact H)|rfl
 clear H
 have H:=H1
 clear H1
 simp only[zNq,zOq] at H
 obtain⟨rfl,rfl,rfl,rfl,rfl⟩:=H
 obtain⟨HGz5,hgz5⟩:=HI0.out
 have hcz5_0:=cellS31_0 HGz5;have hcz5_1:=cellS31_1 HGz5;have hcz5_2:=cellS31_2 HGz5;have hcz5_3:=cellS31_3 HGz5;have hfz5_0:=zG HGz5 0;have hfz5_1:=zG HGz5 1;have hfz5_2:=zG HGz5 2;have hfz5_3:=zG HGz5 3;clear HGz5 hgz5
 try simp only[errW_none,errW_some] at hcz5_2
 go_enter Try.func72,Try.ntmps72
 go_wp2
 go_ret
 exact⟨qE,by repeat(first|(with_reducible first|exact HI0.out|apply IsS31.alloc|apply IsS31.drewN|apply IsS31.drew)|exact HI0.out),qH HI0.out HB.out,qJ HK.out⟩
end Go.Proofs.Ytdpcgigjlcpofaa.F
namespace Go.Proofs.Ytdpcgigjlcpofaa.F
open Go.RowKit Go.Proofs.YtdpcgigjlcpofaaX Go.Proofs.YtdpcgigjlcpofaaW.PrintWords Go.Proofs.YtdpcgigjlcpofaaW.PrintLast Go.Proofs.YtdpcgigjlcpofaaW.PrintMore
attribute [local go_sem] max2_int min2_int max_two min_two max_three min_three max_four min_four
attribute [local go_sem high] str_geq str_leq str_gtr
set_option linter.unusedVariables false
set_option linter.unusedSimpArgs false
def cT.f (a0:ByteArray) (a1:Int):Option (Bool):=if a1≥0 then(some (decide (a1≤(a0.size:Int))))else(some false)
theorem cT.calls (a0:ByteArray) (a1:Int) (r:Bool) (w:World) (h:cT.f a0 a1=some r):
  Calls Try.prog 122 #[.string a0,.int .i64 a1] w fun e w'=>e= .returned (.bool r)∧Drawn0 w w':=by
 have H:(if a1≥0 then(some (decide (a1≤(a0.size:Int))))else(some false))=some r:=h
 clear h
 by_cases c3:a1≥0
 ·rw[if_pos c3] at H
  have c3b0:decide (0≤a1)=true:=zFq c3;clear c3;obtain rfl:=zKq H;go_enter Try.func122,Try.ntmps122;go_wp2;go_ret;exact⟨by first|rfl|(simp;done)|(simp[*];done),by repeat(first|exact Drawn0.refl _|apply Drawn0.step)⟩
 rw[if_neg c3] at H
 have c3b0:decide (0≤a1)=false:=zGq c3
 clear c3
 obtain rfl:=zKq H
 go_enter Try.func122,Try.ntmps122
 go_wp2
 go_ret
 exact⟨by first|rfl|(simp;done)|(simp[*];done),by repeat(first|exact Drawn0.refl _|apply Drawn0.step)⟩
end Go.Proofs.Ytdpcgigjlcpofaa.F
namespace Go.Proofs.Ytdpcgigjlcpofaa.F
open Go.RowKit Go.Proofs.YtdpcgigjlcpofaaX Go.Proofs.YtdpcgigjlcpofaaW.PrintWords Go.Proofs.YtdpcgigjlcpofaaW.PrintLast Go.Proofs.YtdpcgigjlcpofaaW.PrintMore
attribute [local go_sem] max2_int min2_int max_two min_two max_three min_three max_four min_four
attribute [local go_sem high] str_geq str_leq str_gtr
set_option linter.unusedVariables false
set_option linter.unusedSimpArgs false
def cF.f (a0:Int):Option (Int × Int × Int):=some (0,0,a0)
theorem cF.calls (a0:Int) (r1:Int) (r2:Int) (r3:Int) (w:World) (h:cF.f a0=some (r1,r2,r3)):
  Calls Try.prog 123 #[.int .i64 a0] w fun e w'=>e= .returned (.tuple #[.agg #[.int .i64 r1,.int .i64 r2],.int .i64 r3])∧Below w.heap.size w w':=by
 have hu130:=Try.underlying130
 have HB:=zA (Below.refl w.heap.size w)
 have H:(some (0,0,a0))=some (r1,r2,r3):=h
 clear h
 simp only[zNq,zOq] at H
 obtain⟨rfl,rfl,rfl⟩:=H
 go_enter Try.func123,Try.ntmps123
 go_wp2_with (first|((with_reducible refine gate_dst (N:=2) rfl ?_);refine box_event qr (N:=2) qr (cs:= #[.int .i64 0,.int .i64 0]) (t:=130) qg ?_;intro gb101 hg w2 hbox hb;have BK101:=zA (hbox);have GW101:=zA ((qS:w.heap.size≤gb101));have GE101:=zA ((qS:w.heap.size≤gb101));replace HB:=zA (zV qB hb);clear hb hbox hg;obtain⟨_,_,_,_⟩:=qc2f BK101.out))
 refine bodyPost_ret (results_ct rfl _ _ gb101 130 #[.int .i64 0,.int .i64 0] (0,0) _ rfl (qV BK101.out) Try.underlying130 rfl (by kernel_rfl)) rfl ?_
 exact⟨qE,qB⟩
end Go.Proofs.Ytdpcgigjlcpofaa.F
namespace Go.Proofs.Ytdpcgigjlcpofaa.F
open Go.RowKit Go.Proofs.YtdpcgigjlcpofaaX Go.Proofs.YtdpcgigjlcpofaaW.PrintWords Go.Proofs.YtdpcgigjlcpofaaW.PrintLast Go.Proofs.YtdpcgigjlcpofaaW.PrintMore
attribute [local go_sem] max2_int min2_int max_two min_two max_three min_three max_four min_four
attribute [local go_sem high] str_geq str_leq str_gtr
set_option linter.unusedVariables false
set_option linter.unusedSimpArgs false
def cZ.f (a0:Int) (a1:Int):Option (Int × Int × Int):=some (a0,a1,0)
theorem cZ.calls (a0:Int) (a1:Int) (r1:Int) (r2:Int) (r3:Int) (w:World) (h:cZ.f a0 a1=some (r1,r2,r3)):
  Calls Try.prog 124 #[.int .i64 a0,.int .i64 a1] w fun e w'=>e= .returned (.tuple #[.agg #[.int .i64 r1,.int .i64 r2],.int .i64 r3])∧Below w.heap.size w w':=by
 have hu130:=Try.underlying130
 have HB:=zA (Below.refl w.heap.size w)
 have H:(some (a0,a1,0))=some (r1,r2,r3):=h
 clear h
 simp only[zNq,zOq] at H
 obtain⟨rfl,rfl,rfl⟩:=H
 go_enter Try.func124,Try.ntmps124
 go_wp2_with (first|((with_reducible refine gate_dst (N:=4) rfl ?_);refine box_event qr (N:=4) qr (cs:= #[.int .i64 0,.int .i64 0]) (t:=130) qg ?_;intro gb101 hg w3 hbox hb;have BK101:=zA (hbox);have GW101:=zA ((qS:w.heap.size≤gb101));have GE101:=zA ((qS:w.heap.size≤gb101));replace HB:=zA (zV qB hb);clear hb hbox hg;obtain⟨_,_,_,_⟩:=qc2f BK101.out))
 refine bodyPost_ret (results_ct rfl _ _ gb101 130 #[.int .i64 a0,.int .i64 a1] (0,0) _ rfl (qV BK101.out) Try.underlying130 rfl (by kernel_rfl)) rfl ?_
 exact⟨qE,qB⟩
end Go.Proofs.Ytdpcgigjlcpofaa.F
namespace Go.Proofs.Ytdpcgigjlcpofaa.F
open Go.RowKit Go.Proofs.YtdpcgigjlcpofaaX Go.Proofs.YtdpcgigjlcpofaaW.PrintWords Go.Proofs.YtdpcgigjlcpofaaW.PrintLast Go.Proofs.YtdpcgigjlcpofaaW.PrintMore
attribute [local go_sem] max2_int min2_int max_two min_two max_three min_three max_four min_four
attribute [local go_sem high] str_geq str_leq str_gtr
set_option linter.unusedVariables false
set_option linter.unusedSimpArgs false
mutual
def bJ.j0:Nat→ByteArray→Int→Int→Bool→Option (Int × Int × Int)
  |0,_,_,_,_=>none
  |k+1,x0,x1,x2,x10=>if x10=true then((cF.f 2).bind fun bt104=> (some (bt104.1,bt104.2.1,bt104.2.2)))else(if(wrap64 ((x0.size:Int) - x1)) < x2 then((cF.f 4).bind fun bt107=> (some (bt107.1,bt107.2.1,bt107.2.2)))else(bJ.l0 k x0 x1 x2 0 x2 0))
def bJ.l0:Nat→ByteArray→Int→Int→Int→Int→Int→Option (Int × Int × Int)
  |0,_,_,_,_,_,_=>none
  |k+1,x0,x1,x2,x8,x33,x34=>if x34 < x33 then(if 0≤(wrap64 (x1+x34))then(if(wrap64 (x1+x34)) < (x0.size:Int)then(bJ.l0 k x0 x1 x2 (Go.bits .or .u64 (IntKind.u64.wrap (x8 * 256)) (IntKind.u64.wrap (bt x0 (wrap64 (x1+x34))))) x33 (wrap64 (x34+1)))else(none))else(none))else(if x8 > 9223372036854775807 then((cF.f 8).bind fun bt110=> (some (bt110.1,bt110.2.1,bt110.2.2)))else((cZ.f (wrap64 (x8)) (wrap64 (x1+x2))).bind fun bt113=> (some (bt113.1,bt113.2.1,bt113.2.2))))
end
def bJ.f (k:Nat) (a0:ByteArray) (a1:Int) (a2:Int):Option (Int × Int × Int):=(cN.f a2).bind fun t102=> (if t102=true then((cT.f a0 a1).bind fun t103=> (bJ.j0 k a0 a1 a2 (!t103)))else(bJ.j0 k a0 a1 a2 true))
theorem bJ.mono_l: ∀ k,(∀ y0 y1 y2 y3,LeO (bJ.j0 k y0 y1 y2 y3) (bJ.j0 (k+1) y0 y1 y2 y3))∧(∀ y0 y1 y2 y3 y4 y5,LeO (bJ.l0 k y0 y1 y2 y3 y4 y5) (bJ.l0 (k+1) y0 y1 y2 y3 y4 y5))
  |0=> ⟨fun _ _ _ _ r h=>by simp[bJ.j0] at h,fun _ _ _ _ _ _ r h=>by simp[bJ.l0] at h⟩
  |k+1=>by
    obtain⟨ih0,ih1⟩:=bJ.mono_l k
    refine⟨?_,?_⟩
    · intro y0 y1 y2 y3
      unfold bJ.j0
      repeat' (with_reducible first|exact ih0 _ _ _ _|exact ih1 _ _ _ _ _ _|exact LeO.refl _|exact LeO.none _|refine LeO.ite ?_ ?_|refine LeO.bind ?_ (fun _=>?_))
    intro y0 y1 y2 y3 y4 y5
    unfold bJ.l0
    repeat' (with_reducible first|exact ih0 _ _ _ _|exact ih1 _ _ _ _ _ _|exact LeO.refl _|exact LeO.none _|refine LeO.ite ?_ ?_|refine LeO.bind ?_ (fun _=>?_))
theorem bJ.mono: ∀ a0 a1 a2 k,LeO (bJ.f k a0 a1 a2) (bJ.f (k+1) a0 a1 a2):=by
  intro a0 a1 a2 k
  obtain⟨ih0,ih1⟩:=bJ.mono_l k
  unfold bJ.f
  repeat' (with_reducible first|exact ih0 _ _ _ _|exact ih1 _ _ _ _ _ _|exact LeO.refl _|exact LeO.none _|refine LeO.ite ?_ ?_|refine LeO.bind ?_ (fun _=>?_))
theorem bJ.calls (k:Nat) (a0:ByteArray) (a1:Int) (a2:Int) (r1:Int) (r2:Int) (r3:Int) (w:World) (h:bJ.f k a0 a1 a2=some (r1,r2,r3)):
  Calls Try.prog 73 #[.string a0,.int .i64 a1,.int .i64 a2] w fun e w'=>e= .returned (.tuple #[.agg #[.int .i64 r1,.int .i64 r2],.int .i64 r3])∧Below w.heap.size w w':=by
 have hu130:=Try.underlying130
 have HB:=zA (Below.refl w.heap.size w)
 have H:((cN.f a2).bind fun t102=> (if t102=true then((cT.f a0 a1).bind fun t103=> (bJ.j0 k a0 a1 a2 (!t103)))else(bJ.j0 k a0 a1 a2 true)))=some (r1,r2,r3):=h
 clear h
 have HC4:=zA H
 clear H
 go_enter Try.func73,Try.ntmps73
 go_upto_region 1 with(first|((with_reducible refine gate_dst (N:=6) rfl ?_);refine box_event qr (N:=6) qr (cs:= #[.int .i64 0,.int .i64 0]) (t:=130) qg ?_;intro gb101 hg w5 hbox hb;have BK101:=zA (hbox);have GW101:=zA ((qS:w.heap.size≤gb101));have GE101:=zA ((qS:w.heap.size≤gb101));replace HB:=zA (zV qB hb);clear hb hbox hg))
 (try simp only[Act.put,zH,zI,zJ])
 go_cut[10] (fun v10 wc=> ∃ (kq:Nat) (x10_3:Bool),v10= .bool x10_3∧Aside0 (bJ.j0 kq a0 a1 a2 x10_3=some (r1,r2,r3))∧Aside0 (kq≤k)∧Aside0 (wc.heap[gb101]? =some (.cells #[.int .i64 0,.int .i64 0] 130 (0,0)))∧Aside0 (Below w.heap.size w wc))
 case first=>
  have H:=HC4.out;clear HC4;obtain⟨t102,A6,H⟩:=qD_ H;(try dsimp only at H);by_cases c7:t102=true
  ·subst c7
   have H1:((cT.f a0 a1).bind fun t103=> (bJ.j0 k a0 a1 a2 (!t103)))=some (r1,r2,r3):=by first|(rw[if_pos rfl] at H;exact H)|rfl
   clear H;have H:=H1;clear H1;obtain⟨t103,A8,H⟩:=qD_ H;(try dsimp only at H);have H':=zA H;clear H;go_wp2_with (first|((with_reducible refine zJq (f:=121) rfl ?_);refine goesL_ (some 12) rfl rfl Try.func121 (by kernel_rfl) rfl #[.int .i64 a2] rfl qG ?_;(with_reducible refine(cN.calls a2 true _ A6.out).mono ?_);rintro e w' ⟨rfl,⟨nd,rfl⟩⟩;refine⟨_,rfl,?_⟩)|(go_at_call 122;(with_reducible refine(cT.calls a0 a1 t103 _ A8.out).mono ?_);rintro e w' ⟨rfl,⟨nd,rfl⟩⟩));go_meet
   case rel=>exact⟨_,(!t103),qF_,H',⟨by first|omega|exact Nat.le_refl _⟩,⟨by exact BK101.out⟩,⟨qB⟩⟩
  replace c7:=Bool.eq_false_iff.mpr c7;subst c7;have H1:(bJ.j0 k a0 a1 a2 true)=some (r1,r2,r3):=by first|(rw[if_neg (show ¬ (false=true) by decide)] at H;exact H)|rfl
  clear H;have H:=H1;clear H1;have H':=zA H;clear H;go_wp2_with (first|((with_reducible refine zJq (f:=121) rfl ?_);refine goesL_ (some 12) rfl rfl Try.func121 (by kernel_rfl) rfl #[.int .i64 a2] rfl qG ?_;(with_reducible refine(cN.calls a2 false _ A6.out).mono ?_);rintro e w' ⟨rfl,⟨nd,rfl⟩⟩;refine⟨_,rfl,?_⟩));go_meet
  case rel=>exact⟨_,(true),qF_,H',⟨by first|omega|exact Nat.le_refl _⟩,⟨by exact BK101.out⟩,⟨qB⟩⟩
 case rest=>
  clear HC4;try clear c1
  try clear p2
  try clear c7
  obtain⟨kq,x10_3,rfl,HA,HJ3,BK101,HB⟩:=hcut;cases kq with
  |zero=>exact absurd HA.out (by simp[bJ.j0])
  |succ kj3=>
   have H:=HA.out;clear HA;simp only[bJ.j0] at H;by_cases c9:x10_3=true
   ·subst c9
    have H1:((cF.f 2).bind fun bt104=> (some (bt104.1,bt104.2.1,bt104.2.2)))=some (r1,r2,r3):=by first|(rw[if_pos rfl] at H;exact H)|rfl
    clear H;have H:=H1;clear H1;obtain⟨⟨t104,t105,t106⟩,A10,H⟩:=qD_ H;(try dsimp only at H);simp only[zNq,zOq] at H;obtain⟨rfl,rfl,rfl⟩:=H;go_wp2_with (first|((with_reducible refine zJq (f:=123) rfl ?_);refine goesL_ (some 20) rfl rfl Try.func123 (by kernel_rfl) rfl #[.int .i64 2] rfl qG ?_;(with_reducible refine(cF.calls 2 t104 t105 t106 _ A10.out).mono ?_);rintro e w11 ⟨rfl,hb⟩;refine⟨_,rfl,?_⟩;replace BK101:=zA (qX BK101.out hb);replace HB:=zA (zV qB hb);(try clear hb);obtain⟨_,_,_,_⟩:=qc2f BK101.out));refine bodyPost_ret (results_ct rfl _ _ gb101 130 #[.int .i64 t104,.int .i64 t105] (0,0) _ rfl (qV BK101.out) Try.underlying130 rfl (by kernel_rfl)) rfl ?_;exact⟨qE,qB⟩
   replace c9:=Bool.eq_false_iff.mpr c9;subst c9;have H1:(if(wrap64 ((a0.size:Int) - a1)) < a2 then((cF.f 4).bind fun bt107=> (some (bt107.1,bt107.2.1,bt107.2.2)))else(bJ.l0 kj3 a0 a1 a2 0 a2 0))=some (r1,r2,r3):=by first|(rw[if_neg (show ¬ (false=true) by decide)] at H;exact H)|rfl
   clear H;have H:=H1;clear H1;by_cases c13:(wrap64 ((a0.size:Int) - a1)) < a2
   ·rw[if_pos c13] at H
    have c13b0:=zFq c13;clear c13;obtain⟨⟨t107,t108,t109⟩,A14,H⟩:=qD_ H;(try dsimp only at H);simp only[zNq,zOq] at H;obtain⟨rfl,rfl,rfl⟩:=H;go_wp2_with (first|((with_reducible refine zJq (f:=123) rfl ?_);refine goesL_ (some 30) rfl rfl Try.func123 (by kernel_rfl) rfl #[.int .i64 4] rfl qG ?_;(with_reducible refine(cF.calls 4 t107 t108 t109 _ A14.out).mono ?_);rintro e w15 ⟨rfl,hb⟩;refine⟨_,rfl,?_⟩;replace BK101:=zA (qX BK101.out hb);replace HB:=zA (zV qB hb);(try clear hb);obtain⟨_,_,_,_⟩:=qc2f BK101.out));refine bodyPost_ret (results_ct rfl _ _ gb101 130 #[.int .i64 t107,.int .i64 t108] (0,0) _ rfl (qV BK101.out) Try.underlying130 rfl (by kernel_rfl)) rfl ?_;exact⟨qE,qB⟩
   rw[if_neg c13] at H;have c13b0:=zGq c13;clear c13;have H':=zA H;clear H;go_wp2;go_loopg[8,34] kj3 (fun kq v8 v34 w'=> ∃ (x8_2:Int) (x34_2:Int),v8= .int .u64 x8_2∧v34= .int .i64 x34_2∧Aside0 (bJ.l0 kq a0 a1 a2 x8_2 a2 x34_2=some (r1,r2,r3))∧Aside0 (kq≤kj3)∧Aside0 (w'.heap[gb101]? =some (.cells #[.int .i64 0,.int .i64 0] 130 (0,0)))∧Aside0 (Below w.heap.size w w'))
   case atStart=>exact⟨(0),(0),qF_,qF_,H',⟨Nat.le_refl _⟩,⟨by exact BK101.out⟩,⟨qB⟩⟩
   case round=>
    clear H';try clear c1
    try clear p2
    try clear p6
    try clear c7
    try clear c9
    try clear c12
    try clear c13
    try clear c13b0
    try clear p2
    obtain⟨x8_2,x34_2,rfl,rfl,HA,HK2,BK101,HB⟩:=hrel;cases gk with
    |zero=>exact absurd HA.out (by simp[bJ.l0])
    |succ k2=>
     have H:=HA.out;clear HA;simp only[bJ.l0] at H;by_cases c17:x34_2 < a2
     ·rw[if_pos c17] at H
      have c17b0:=zFq c17;clear c17;obtain⟨ji18,hji18⟩: ∃ j_:Int,(wrap64 (a1+x34_2))=j_:=⟨_,rfl⟩
      replace H:(if 0≤(ji18)then(if(ji18) < (a0.size:Int)then(bJ.l0 k2 a0 a1 a2 (Go.bits .or .u64 (IntKind.u64.wrap (x8_2 * 256)) (IntKind.u64.wrap (bt a0 (ji18)))) a2 (wrap64 (x34_2+1)))else(none))else(none))=some (r1,r2,r3):=by first|(rw[hji18] at H;exact H)|(simp only[hji18] at H⊢;exact H)
      have hji18w:(IntKind.i64.wrap (a1+x34_2))=ji18:=(i64_w _).trans hji18;by_cases c19:0≤(ji18)
      ·rw[if_pos c19] at H
       have c19b0:=zFq c19;clear c19;by_cases c20:(ji18) < (a0.size:Int)
       ·rw[if_pos c20] at H
        have c20b0:=zFq c20;clear c20;have H':=zA H;clear H;have p21:0≤((ji18):Int):=qO_;have q21:(ji18) < (a0.size:Int):=qO_;have hx21:=bt_at a0 (ji18);replace p21:=eq_true p21;replace q21:=eq_true q21;go_wp2;go_roundg k2
        case measure=>have:=HJ3.out;have:=HK2.out;omega
        case rel=>exact⟨(Go.bits .or .u64 (IntKind.u64.wrap (x8_2 * 256)) (IntKind.u64.wrap (bt a0 (ji18)))),(wrap64 (x34_2+1)),(by first|rfl|(simp;done)|(simp only[←hji18] <;> (first|rfl|simp))|(simp[*];done)),qF_,H',⟨by have:=HJ3.out;have:=HK2.out;omega⟩,⟨by exact BK101.out⟩,⟨qB⟩⟩
       rw[if_neg c20] at H;exact absurd H (by simp)
      rw[if_neg c19] at H;exact absurd H (by simp)
     rw[if_neg c17] at H;have c17b0:=zGq c17;clear c17;by_cases c22:x8_2 > 9223372036854775807
     ·rw[if_pos c22] at H
      have c22b0:decide (9223372036854775807 < x8_2)=true:=zFq c22;clear c22;obtain⟨⟨t110,t111,t112⟩,A23,H⟩:=qD_ H;(try dsimp only at H);simp only[zNq,zOq] at H;obtain⟨rfl,rfl,rfl⟩:=H;go_wp2_with (first|((with_reducible refine zJq (f:=123) rfl ?_);refine goesL_ (some 49) rfl rfl Try.func123 (by kernel_rfl) rfl #[.int .i64 8] rfl qG ?_;(with_reducible refine(cF.calls 8 t110 t111 t112 _ A23.out).mono ?_);rintro e w24 ⟨rfl,hb⟩;refine⟨_,rfl,?_⟩;replace BK101:=zA (qX BK101.out hb);replace HB:=zA (zV qB hb);(try clear hb);obtain⟨_,_,_,_⟩:=qc2f BK101.out));refine bodyPost_ret (results_ct rfl _ _ gb101 130 #[.int .i64 t110,.int .i64 t111] (0,0) _ rfl (qV BK101.out) Try.underlying130 rfl (by kernel_rfl)) rfl ?_;exact⟨qE,qB⟩
     rw[if_neg c22] at H;have c22b0:decide (9223372036854775807 < x8_2)=false:=zGq c22;clear c22;obtain⟨⟨t113,t114,t115⟩,A26,H⟩:=qD_ H;(try dsimp only at H);simp only[zNq,zOq] at H;obtain⟨rfl,rfl,rfl⟩:=H;go_wp2_with (first|((with_reducible refine zJq (f:=124) rfl ?_);refine goesL_ (some 57) rfl rfl Try.func124 (by kernel_rfl) rfl #[.int .i64 (wrap64 (x8_2)),.int .i64 (wrap64 (a1+a2))] rfl qG ?_;(with_reducible refine(cZ.calls (wrap64 (x8_2)) (wrap64 (a1+a2)) t113 t114 t115 _ A26.out).mono ?_);rintro e w27 ⟨rfl,hb⟩;refine⟨_,rfl,?_⟩;replace BK101:=zA (qX BK101.out hb);replace HB:=zA (zV qB hb);(try clear hb);obtain⟨_,_,_,_⟩:=qc2f BK101.out));refine bodyPost_ret (results_ct rfl _ _ gb101 130 #[.int .i64 t113,.int .i64 t114] (0,0) _ rfl (qV BK101.out) Try.underlying130 rfl (by kernel_rfl)) rfl ?_;exact⟨qE,qB⟩
end Go.Proofs.Ytdpcgigjlcpofaa.F
namespace Go.Proofs.Ytdpcgigjlcpofaa.F
open Go.RowKit Go.Proofs.YtdpcgigjlcpofaaX Go.Proofs.YtdpcgigjlcpofaaW.PrintWords Go.Proofs.YtdpcgigjlcpofaaW.PrintLast Go.Proofs.YtdpcgigjlcpofaaW.PrintMore
attribute [local go_sem] max2_int min2_int max_two min_two max_three min_three max_four min_four
attribute [local go_sem high] str_geq str_leq str_gtr
set_option linter.unusedVariables false
set_option linter.unusedSimpArgs false
def bQ.f (s0_0:ByteArray) (s0_1:Int) (s0_2:Option (Int × Int)) (s0_3:Bool) (a1:Int) (a2:Int):Option (Bool × ByteArray × Int × Option (Int × Int) × Bool):=if a2=0 then(some (true,s0_0,a1,s0_2,s0_3))else(some (false,s0_0,s0_1,some (a2,s0_1),s0_3))
theorem bQ.calls (g:Nat) (s0_0:ByteArray) (s0_1:Int) (s0_2:Option (Int × Int)) (s0_3:Bool) (a1:Int) (a2:Int) (r1:Bool) (r2:ByteArray) (r3:Int) (r4:Option (Int × Int)) (r5:Bool) (w0 w:World) (hI:IsS31 w0 w g s0_0 s0_1 s0_2 s0_3) (hB:Below w0.heap.size w0 w) (h:bQ.f s0_0 s0_1 s0_2 s0_3 a1 a2=some (r1,r2,r3,r4,r5)):
  Calls Try.prog 74 #[.pointer (some ⟨g,0,none⟩),.int .i64 a1,.int .i64 a2] w fun e w'=>e= .returned (.bool r1)∧IsS31 w0 w' g r2 r3 r4 r5∧Below w0.heap.size w0 w'∧KeepBut w w' g none:=by
 have hu115:=Try.underlying115
 have hu29:=Try.underlying29
 have HI0:=zA hI
 have HK:=zA (KeepBut.refl w g none)
 have HL:=zA hB.size
 clear hI
 have HW0:=zA hB.size
 have HB:=zA hB
 clear hB
 have H:(if a2=0 then(some (true,s0_0,a1,s0_2,s0_3))else(some (false,s0_0,s0_1,some (a2,s0_1),s0_3)))=some (r1,r2,r3,r4,r5):=h
 clear h
 by_cases c4:a2=0
 ·rw[if_pos c4] at H
  have c4b0:(a2==0)=true:=beq_iff_eq.mpr c4;have c4b1:(a2 != 0)=false:=bne_eq_false_iff_eq.mpr c4;clear c4;simp only[zNq,zOq] at H;obtain⟨rfl,rfl,rfl,rfl,rfl⟩:=H;obtain⟨HGz5,hgz5⟩:=HI0.out;have hcz5_0:=cellS31_0 HGz5;have hcz5_1:=cellS31_1 HGz5;have hcz5_2:=cellS31_2 HGz5;have hcz5_3:=cellS31_3 HGz5;have hfz5_0:=zG HGz5 0;have hfz5_1:=zG HGz5 1;have hfz5_2:=zG HGz5 2;have hfz5_3:=zG HGz5 3;clear HGz5 hgz5;try simp only[errW_none,errW_some] at hcz5_2
  go_enter Try.func74,Try.ntmps74;go_wp2;go_ret;exact⟨qE,by repeat(first|(with_reducible first|exact HI0.out|apply IsS31.alloc|apply IsS31.drewN|apply IsS31.drew|apply IsS31.set_0|apply IsS31.set_1|apply IsS31.set_2|apply IsS31.set_3|apply IsS31.sete_2|with_unfolding_all rfl)|exact HI0.out),qH HI0.out HB.out,qJ HK.out⟩
 rw[if_neg c4] at H
 have c4b0:(a2==0)=false:=beq_eq_false_iff_ne.mpr c4
 have c4b1:(a2 != 0)=true:=bne_iff_ne.mpr c4
 simp only[zNq,zOq] at H
 obtain⟨rfl,rfl,rfl,rfl,rfl⟩:=H
 obtain⟨HGz6,hgz6⟩:=HI0.out
 have hcz6_0:=cellS31_0 HGz6;have hcz6_1:=cellS31_1 HGz6;have hcz6_2:=cellS31_2 HGz6;have hcz6_3:=cellS31_3 HGz6;have hfz6_0:=zG HGz6 0;have hfz6_1:=zG HGz6 1;have hfz6_2:=zG HGz6 2;have hfz6_3:=zG HGz6 3;clear HGz6 hgz6
 try simp only[errW_none,errW_some] at hcz6_2
 go_enter Try.func74,Try.ntmps74
 go_wp2
 go_ret
 exact⟨qE,by repeat(first|(with_reducible first|exact HI0.out|apply IsS31.alloc|apply IsS31.drewN|apply IsS31.drew|apply IsS31.set_0|apply IsS31.set_1|apply IsS31.set_2|apply IsS31.set_3|apply IsS31.sete_2|with_unfolding_all rfl)|exact HI0.out),qH HI0.out HB.out,qJ HK.out⟩
end Go.Proofs.Ytdpcgigjlcpofaa.F
namespace Go.Proofs.Ytdpcgigjlcpofaa.F
open Go.RowKit Go.Proofs.YtdpcgigjlcpofaaX Go.Proofs.YtdpcgigjlcpofaaW.PrintWords Go.Proofs.YtdpcgigjlcpofaaW.PrintLast Go.Proofs.YtdpcgigjlcpofaaW.PrintMore
attribute [local go_sem] max2_int min2_int max_two min_two max_three min_three max_four min_four
attribute [local go_sem high] str_geq str_leq str_gtr
set_option linter.unusedVariables false
set_option linter.unusedSimpArgs false
def aQ.j0:Nat→Int→Bool→ByteArray→Int→Option (Int × Int)→Bool→Int→Int→Option (Int × ByteArray × Int × Option (Int × Int) × Bool)
  |0,_,_,_,_,_,_,_,_=>none
  |k+1,x8,x32,x1000,x1001,x1002,x1003,x110000,x110001=>if x32=true then((bQ.f x1000 x1001 x1002 x1003 x110001 3).bind fun bt110=> (if bt110.1=true then(some (x110000,bt110.2.1,bt110.2.2.1,bt110.2.2.2.1,bt110.2.2.2.2))else(some (0,bt110.2.1,bt110.2.2.1,bt110.2.2.2.1,bt110.2.2.2.2))))else((bQ.f x1000 x1001 x1002 x1003 x110001 x8).bind fun bt115=> (if bt115.1=true then(some (x110000,bt115.2.1,bt115.2.2.1,bt115.2.2.2.1,bt115.2.2.2.2))else(some (0,bt115.2.1,bt115.2.2.1,bt115.2.2.2.1,bt115.2.2.2.2))))
def aQ.f (k:Nat) (s0_0:ByteArray) (s0_1:Int) (s0_2:Option (Int × Int)) (s0_3:Bool) (a1:Int) (a2:Int):Option (Int × ByteArray × Int × Option (Int × Int) × Bool):=(bP.f s0_0 s0_1 s0_2 s0_3).bind fun bt101=> (if bt101.1=true then((bJ.f k bt101.2.1 bt101.2.2.1 a1).bind fun bt106=> (if bt106.2.2=0 then(aQ.j0 k bt106.2.2 (decide (bt106.1 > a2)) bt101.2.1 bt101.2.2.1 bt101.2.2.2.1 bt101.2.2.2.2 bt106.1 bt106.2.1)else(aQ.j0 k bt106.2.2 false bt101.2.1 bt101.2.2.1 bt101.2.2.2.1 bt101.2.2.2.2 bt106.1 bt106.2.1)))else(some (0,bt101.2.1,bt101.2.2.1,bt101.2.2.2.1,bt101.2.2.2.2)))
theorem aQ.mono_l: ∀ k,(∀ y0 y1 y2 y3 y4 y5 y6 y7,LeO (aQ.j0 k y0 y1 y2 y3 y4 y5 y6 y7) (aQ.j0 (k+1) y0 y1 y2 y3 y4 y5 y6 y7))
  |0=>fun _ _ _ _ _ _ _ _ r h=>by simp[aQ.j0] at h
  |k+1=>by
    have ih0:=aQ.mono_l k
    intro y0 y1 y2 y3 y4 y5 y6 y7
    unfold aQ.j0
    repeat' (with_reducible first|exact ih0 _ _ _ _ _ _ _ _|exact bJ.mono _ _ _ _|exact LeO.refl _|exact LeO.none _|refine LeO.ite ?_ ?_|refine LeO.bind ?_ (fun _=>?_))
theorem aQ.mono: ∀ a0 a1 a2 a3 a4 a5 k,LeO (aQ.f k a0 a1 a2 a3 a4 a5) (aQ.f (k+1) a0 a1 a2 a3 a4 a5):=by
  intro a0 a1 a2 a3 a4 a5 k
  have ih0:=aQ.mono_l k
  unfold aQ.f
  repeat' (with_reducible first|exact ih0 _ _ _ _ _ _ _ _|exact bJ.mono _ _ _ _|exact LeO.refl _|exact LeO.none _|refine LeO.ite ?_ ?_|refine LeO.bind ?_ (fun _=>?_))
def aQ.T3:Bool × List (List Nat × List Nat):=(true,[([],[]),([0],[0]),([1],[1]),([2],[2]),([],[]),([4],[4]),([5],[5]),([6],[6]),([],[]),([3,7,8],[3,7,8]),([9],[9]),([10],[10]),([10],[10]),([],[]),([13,11,9,0,1,2,3,4,5,6,7,8,9,10,11,13],[11,13]),([12,14,0,1,2,3,4,5,6,7,8,9,10,11,12,13,14],[12])])
def aQ.B3:List Nat:=[0,1,3,7,0,16,48,112,0,511,1023,2047,2047,0,12287,32767]
theorem aQ.tab3:rtab .any (opsOf Try.f19 3)=aQ.T3:=by kernel_rfl
theorem aQ.bits3:waitsOk aQ.T3.2 aQ.B3=true:=by kernel_rfl
theorem aQ.calls (k:Nat) (g:Nat) (s0_0:ByteArray) (s0_1:Int) (s0_2:Option (Int × Int)) (s0_3:Bool) (a1:Int) (a2:Int) (r1:Int) (r2:ByteArray) (r3:Int) (r4:Option (Int × Int)) (r5:Bool) (w0 w:World) (hI:IsS31 w0 w g s0_0 s0_1 s0_2 s0_3) (hB:Below w0.heap.size w0 w) (h:aQ.f k s0_0 s0_1 s0_2 s0_3 a1 a2=some (r1,r2,r3,r4,r5)):
  Calls Try.prog 19 #[.pointer (some ⟨g,0,none⟩),.int .i64 a1,.int .i64 a2] w fun e w'=>e= .returned (.int .i64 r1)∧IsS31 w0 w' g r2 r3 r4 r5∧Below w0.heap.size w0 w'∧KeepBut w w' g none:=by
 have hu130:=Try.underlying130
 have HI0:=zA hI
 have HK:=zA (KeepBut.refl w g none)
 have HL:=zA hB.size
 clear hI
 have HW0:=zA hB.size
 have HB:=zA hB
 clear hB
 have H:((bP.f s0_0 s0_1 s0_2 s0_3).bind fun bt101=> (if bt101.1=true then((bJ.f k bt101.2.1 bt101.2.2.1 a1).bind fun bt106=> (if bt106.2.2=0 then(aQ.j0 k bt106.2.2 (decide (bt106.1 > a2)) bt101.2.1 bt101.2.2.1 bt101.2.2.2.1 bt101.2.2.2.2 bt106.1 bt106.2.1)else(aQ.j0 k bt106.2.2 false bt101.2.1 bt101.2.2.1 bt101.2.2.2.1 bt101.2.2.2.2 bt106.1 bt106.2.1)))else(some (0,bt101.2.1,bt101.2.2.1,bt101.2.2.2.1,bt101.2.2.2.2))))=some (r1,r2,r3,r4,r5):=h
 clear h
 replace H:=Option.bind_eq_some_iff.mp H
 obtain⟨⟨t101,s0_0,s0_1,s0_2,s0_3⟩,A40,H⟩:=H
 obtain⟨rfl,rfl,rfl,rfl⟩:=bP.same A40
 try dsimp only at H
 have A4:=zA A40
 clear A40
 by_cases c5:t101=true
 ·subst c5
  have H1:((bJ.f k s0_0 s0_1 a1).bind fun bt106=> (if bt106.2.2=0 then(aQ.j0 k bt106.2.2 (decide (bt106.1 > a2)) s0_0 s0_1 s0_2 s0_3 bt106.1 bt106.2.1)else(aQ.j0 k bt106.2.2 false s0_0 s0_1 s0_2 s0_3 bt106.1 bt106.2.1)))=some (r1,r2,r3,r4,r5):=by first|(rw[if_pos rfl] at H;exact H)|rfl
  clear H;have H:=H1;clear H1;obtain⟨⟨t106,t107,t108⟩,A6,H⟩:=qD_ H;(try dsimp only at H);have HC7:=zA H;clear H;go_enter Try.func19,Try.ntmps19;try go_wp2_with (first|((with_reducible refine zJq (f:=72) rfl ?_);refine goesL_ (some 10) rfl rfl Try.func72 (by kernel_rfl) rfl #[.pointer (some ⟨g,0,none⟩)] rfl qG ?_;(with_reducible refine(bP.calls g s0_0 s0_1 s0_2 s0_3 true s0_0 s0_1 s0_2 s0_3 w0 _ ?side1 ?side2 A4.out).mono ?_);(case side1=>repeat(first|(with_reducible first|exact HI0.out|apply IsS31.alloc|apply IsS31.drewN|apply IsS31.drew)|exact HI0.out));(case side2=>repeat(first|(with_reducible first|exact HB.out|apply zD|apply zB|apply zC|refine zE ?_ (IsS31.ge HI0.out))|exact HB.out));rintro e w8 ⟨rfl,hi,hb,hk⟩;refine⟨_,rfl,?_⟩;replace HK:=zA (zBq (qJ HK.out) hk (.inl rfl));replace HB:=zA (hb);replace HI0:=zA (hi);(try clear hb);(try clear hk);(try clear hi);(try simp only[errW_none,errW_some]);have BKp0:Aside0 (w8.heap[g]? =some (.cells #[.string s0_0,.int .i64 s0_1,errW s0_2,.bool s0_3] 31 (0,0))):=⟨by obtain⟨hb_,_⟩:=HI0.out;exact hb_⟩))
  replace BKp0:=zA (zAq BKp0.out);replace HI0:=zA (IsS31.drew HI0.out);replace HK:=zA (zM HK.out);replace HB:=zA (zC HB.out);refine start_ (n:=16) (S:=fun w'=>w'.cell? ⟨g,0,none⟩=some (.string s0_0)∧w'.cell? ⟨g,1,none⟩=some (.int .i64 s0_1)∧w'.cell? ⟨g,2,none⟩=some (errW s0_2)∧w'.cell? ⟨g,3,none⟩=some (.bool s0_3)) (ds:=[]) #[O,O,O,O,O,O,O,O,O,O,O,O,O,O,O,O] (by kernel_rfl) rfl rfl ⟨(zF BKp0.out 0).trans rfl,(zF BKp0.out 1).trans rfl,(zF BKp0.out 2).trans rfl,(zF BKp0.out 3).trans rfl⟩ (fun hHeld=>?_);refine with_tabW aQ.tab3 aQ.bits3 (fun HT_ HW_=>?_);generalize w8.drew=w9 at BKp0 HI0 HK HB hHeld⊢;refine pure_ (i:=0) (N:=some 13) #[J,O,O,O,O,O,O,O,O,O,O,O,O,O,O,O] rfl rfl (any_of HT_.out (by kernel_rfl)) (fun _ _ _ h=>h) (Or.inl ⟨by rfl,qy⟩) qz ?_;refine pure_ (i:=1) (N:=some 14) #[J,J,O,O,O,O,O,O,O,O,O,O,O,O,O,O] rfl rfl (any_of HT_.out (by kernel_rfl)) (fun _ _ _ h=>h) (Or.inl ⟨by rfl,qy⟩) qz ?_;refine pure_ (i:=2) (N:=some 15) #[J,J,J,O,O,O,O,O,O,O,O,O,O,O,O,O] rfl rfl (any_of HT_.out (by kernel_rfl)) (fun _ _ _ h=>h) (Or.inl ⟨by rfl,qy⟩) qz ?_;refine pure_ (i:=4) (N:=some 17) #[J,J,J,O,J,O,O,O,O,O,O,O,O,O,O,O] rfl rfl (any_of HT_.out (by kernel_rfl)) (fun _ _ _ h=>h) (Or.inl ⟨by rfl,qy⟩) qz ?_;refine pure_ (i:=5) (N:=some 18) #[J,J,J,O,J,J,O,O,O,O,O,O,O,O,O,O] rfl rfl (any_of HT_.out (by kernel_rfl)) (fun _ _ _ h=>h) (Or.inl ⟨by rfl,qy⟩) qz ?_;refine pure_ (i:=6) (N:=some 19) #[J,J,J,O,J,J,J,O,O,O,O,O,O,O,O,O] rfl rfl (any_of HT_.out (by kernel_rfl)) (fun _ _ _ h=>h) (Or.inl ⟨by rfl,qy⟩) qz ?_;refine pure_ (i:=8) (N:=some 21) #[J,J,J,O,J,J,J,O,J,O,O,O,O,O,O,O] rfl rfl (any_of HT_.out (by kernel_rfl)) (fun _ _ _ h=>h) (Or.inl ⟨by rfl,qy⟩) qz ?_;refine take_ (i:=3) (N:=some 16) (v:=?_) (a':=?_) #[J,J,J,J,J,J,J,O,J,O,O,O,O,O,O,O] rfl rfl (take_ofW HT_.out HW_.out (by kernel_rfl)) (fun _ _ _ h=>h) (Or.inl ⟨by rfl,?_⟩) hHeld ?_ ?_;rotate_left
  ·rintro w' ⟨s0,s1,s2,s3⟩
   go_simp;with_reducible rfl
  rotate_left
  ·simp only[Act.put,zH,zI,zJ,i64_w,i32_w]
   rfl
  refine take_ (i:=7) (N:=some 20) (v:=?_) (a':=?_) #[J,J,J,J,J,J,J,J,J,O,O,O,O,O,O,O] rfl rfl (take_ofW HT_.out HW_.out (by kernel_rfl)) (fun _ _ _ h=>h) (Or.inl ⟨by rfl,?_⟩) hHeld ?_ ?_;rotate_left
  ·rintro w' ⟨s0,s1,s2,s3⟩
   go_simp;with_reducible rfl
  rotate_left
  ·simp only[Act.put,zH,zI,zJ,i64_w,i32_w]
   rfl
  refine join_ (σ:=Nat) 2 #[J,J,J,J,J,J,J,J,J,J,J,J,J,J,O,O] (fun s_=> [(22,.tuple #[.agg #[.int .i64 t106,.int .i64 t107],.int .i64 t108]),(7,.pointer (some ⟨s_,0,none⟩)),(12,.tuple #[.agg #[.int .i64 t106,.int .i64 t107],.int .i64 t108]),(23,.agg #[.int .i64 t106,.int .i64 t107]),(24,.int .i64 t108)]) (fun s_ w'=> (w'.cell? ⟨g,0,none⟩=some (.string s0_0)∧w'.cell? ⟨g,1,none⟩=some (.int .i64 s0_1)∧w'.cell? ⟨g,2,none⟩=some (errW s0_2)∧w'.cell? ⟨g,3,none⟩=some (.bool s0_3))∧(w'.heap[s_]? =some (.cells #[.int .i64 0,.int .i64 0] 130 (0,0)))∧(w'.heap[g]? =some (.cells #[.string s0_0,.int .i64 s0_1,errW s0_2,.bool s0_3] 31 (0,0)))∧(w.heap.size≤s_)∧(w0.heap.size≤s_)∧(g≠s_)∧(s_≠g)∧(IsS31 w0 w' g s0_0 s0_1 s0_2 s0_3)∧(KeepBut w w' g none)∧(Below w0.heap.size w0 w')) ?_ ?_;rotate_left
  ·intro hCont
   refine two_ (i:=9) (j:=13) (Ni:=some 22) (Nj:=some 7) #[J,J,J,J,J,J,J,J,J,J,O,O,O,O,O,O] #[J,J,J,J,J,J,J,J,J,O,O,O,O,J,O,O] rfl rfl rfl rfl (two_of HT_.out (by kernel_rfl)) (by decide) (by decide) (fun K hK=>?_) (fun K hK=>?_)
   ·skip
    refine goes_ Try.func73 (by kernel_rfl) rfl #[.string s0_0,.int .i64 s0_1,.int .i64 a1] (by rfl) rfl rfl qG ?_;with_reducible refine(bJ.calls k s0_0 s0_1 a1 t106 t107 t108 _ A6.out).mono ?_
    rintro e w10 ⟨rfl,hb⟩;refine⟨_,rfl,?_⟩;replace BKp0:=zA (qX BKp0.out hb);replace HK:=zA (zBq (qJ HK.out) (KeepBut.of_below hb g none) (.inl rfl));replace HB:=zA (zV (qH HI0.out HB.out) hb);replace HI0:=zA (IsS31.below (by repeat(first|(with_reducible first|exact HI0.out|apply IsS31.alloc|apply IsS31.drewN|apply IsS31.drew|refine IsS31.far ?_ NB0_0.out _)|exact HI0.out)) hb);(try clear hb);refine hK.out _ _ ⟨(zF BKp0.out 0).trans rfl,(zF BKp0.out 1).trans rfl,(zF BKp0.out 2).trans rfl,(zF BKp0.out 3).trans rfl⟩ (fun hHeld=>?_);clear hK K;refine norm_ (a':=?_) ?_ ?_;rotate_left
    ·show Act.put _ (some 22) _=_
     simp only[Act.put,zH,zI,zJ,i64_w,i32_w];rfl
    refine pure_ (i:=10) (N:=some 12) #[J,J,J,J,J,J,J,J,J,J,J,O,O,O,O,O] rfl rfl (any_of HT_.out (by kernel_rfl)) (fun _ _ _ h=>h) (Or.inl ⟨by rfl,qy⟩) qz ?_;refine pure_ (i:=11) (N:=some 23) #[J,J,J,J,J,J,J,J,J,J,J,J,O,O,O,O] rfl rfl (any_of HT_.out (by kernel_rfl)) (fun _ _ _ h=>h) (Or.inl ⟨by rfl,qy⟩) qz ?_;refine pure_ (i:=12) (N:=some 24) #[J,J,J,J,J,J,J,J,J,J,J,J,J,O,O,O] rfl rfl (any_of HT_.out (by kernel_rfl)) (fun _ _ _ h=>h) (Or.inl ⟨by rfl,qy⟩) qz ?_;refine one_ (i:=13) (N:=some 7) #[J,J,J,J,J,J,J,J,J,J,J,J,J,J,O,O] rfl rfl (one_of HT_.out (by kernel_rfl)) (by decide) (fun K hK=>?_);refine box_step ?hg (N:=7) ?hd (cs:= #[.int .i64 0,.int .i64 0]) (t:=130) ?hr ?_;(case hd=>rfl);(case hg=>rfl);(case hr=>first|(go_simp;done)|(go_simp;rfl));intro gb109 hg w11 hbox hb;have n0_:=zA (IsS31.below (by repeat(first|(with_reducible first|exact HI0.out|apply IsS31.alloc|apply IsS31.drewN|apply IsS31.drew|refine IsS31.far ?_ NB0_0.out _)|exact HI0.out)) hb);have n1_:=zA (qX BKp0.out hb);have n2_:=zA (zBq (qJ HK.out) (KeepBut.of_below hb g none) (.inl rfl));have n3_:=zA (zV (qH HI0.out HB.out) hb);have n4_:=zA (hbox);have n5_:=zA ((by rw[hg];exact(keep_size (w:=w) (g:=g) (row:=none) (qJ HK.out)):w.heap.size≤gb109));have n6_:=zA ((Nat.le_trans HW0.out (by rw[hg];exact(keep_size (w:=w) (g:=g) (row:=none) (qJ HK.out)):w.heap.size≤gb109):w0.heap.size≤gb109));have n7_:=zA ((by rw[hg];exact zLq (qL BKp0.out):g≠gb109));have n8_:=zA ((by rw[hg];exact zMq (qL BKp0.out):gb109≠g));have n9_:=zA ((by rw[hg];exact zLq (IsS31.lt (show IsS31 w0 _ g s0_0 s0_1 s0_2 s0_3 from by repeat(first|(with_reducible first|exact HI0.out|apply IsS31.alloc|apply IsS31.drewN|apply IsS31.drew|refine IsS31.far ?_ NB0_0.out _)|exact HI0.out))):g≠gb109));have n10_:=zA ((by rw[hg];exact zMq (IsS31.lt (show IsS31 w0 _ g s0_0 s0_1 s0_2 s0_3 from by repeat(first|(with_reducible first|exact HI0.out|apply IsS31.alloc|apply IsS31.drewN|apply IsS31.drew|refine IsS31.far ?_ NB0_0.out _)|exact HI0.out))):gb109≠g));clear HI0;clear BKp0;clear HK;clear HB;have HI0:=n0_;have BKp0:=n1_;have HK:=n2_;have HB:=n3_;have BK109:=n4_;have GW109:=n5_;have GE109:=n6_;have NB0_109:=n7_;have NB109_0:=n8_;have NB0_109:=n9_;have NB109_0:=n10_;clear n0_ n1_ n2_ n3_ n4_ n5_ n6_ n7_ n8_ n9_ n10_;clear hb hbox hg;refine hK.out _ _ ⟨(zF BKp0.out 0).trans rfl,(zF BKp0.out 1).trans rfl,(zF BKp0.out 2).trans rfl,(zF BKp0.out 3).trans rfl⟩ (fun hHeld=>?_)
    clear hK K;refine norm_ (a':=?_) ?_ ?_;rotate_left
    ·show Act.put _ (some 7) _=_
     simp only[Act.put,zH,zI,zJ,i64_w,i32_w];rfl
    exact norm_ (by simp only[putAll,Act.put,zH,zI,zJ]) (hCont (gb109) _ ⟨hHeld,(qW BK109.out),(qW BKp0.out),GW109.out,GE109.out,NB0_109.out,NB109_0.out,(by repeat(first|(with_reducible first|exact HI0.out|apply IsS31.alloc|apply IsS31.drewN|apply IsS31.drew|refine IsS31.far ?_ NB0_0.out _|refine IsS31.far ?_ NB0_109.out _)|exact HI0.out)),(qJ HK.out),(qH HI0.out HB.out)⟩)
   skip;refine box_step ?hg (N:=7) ?hd (cs:= #[.int .i64 0,.int .i64 0]) (t:=130) ?hr ?_;(case hd=>rfl);(case hg=>rfl);(case hr=>first|(go_simp;done)|(go_simp;rfl));intro gb109 hg w10 hbox hb;have n0_:=zA (IsS31.below (by repeat(first|(with_reducible first|exact HI0.out|apply IsS31.alloc|apply IsS31.drewN|apply IsS31.drew|refine IsS31.far ?_ NB0_0.out _)|exact HI0.out)) hb);have n1_:=zA (qX BKp0.out hb);have n2_:=zA (zBq (qJ HK.out) (KeepBut.of_below hb g none) (.inl rfl));have n3_:=zA (zV (qH HI0.out HB.out) hb);have n4_:=zA (hbox);have n5_:=zA ((by rw[hg];exact(keep_size (w:=w) (g:=g) (row:=none) (qJ HK.out)):w.heap.size≤gb109));have n6_:=zA ((Nat.le_trans HW0.out (by rw[hg];exact(keep_size (w:=w) (g:=g) (row:=none) (qJ HK.out)):w.heap.size≤gb109):w0.heap.size≤gb109));have n7_:=zA ((by rw[hg];exact zLq (qL BKp0.out):g≠gb109));have n8_:=zA ((by rw[hg];exact zMq (qL BKp0.out):gb109≠g));have n9_:=zA ((by rw[hg];exact zLq (IsS31.lt (show IsS31 w0 _ g s0_0 s0_1 s0_2 s0_3 from by repeat(first|(with_reducible first|exact HI0.out|apply IsS31.alloc|apply IsS31.drewN|apply IsS31.drew|refine IsS31.far ?_ NB0_0.out _)|exact HI0.out))):g≠gb109));have n10_:=zA ((by rw[hg];exact zMq (IsS31.lt (show IsS31 w0 _ g s0_0 s0_1 s0_2 s0_3 from by repeat(first|(with_reducible first|exact HI0.out|apply IsS31.alloc|apply IsS31.drewN|apply IsS31.drew|refine IsS31.far ?_ NB0_0.out _)|exact HI0.out))):gb109≠g));clear HI0;clear BKp0;clear HK;clear HB;have HI0:=n0_;have BKp0:=n1_;have HK:=n2_;have HB:=n3_;have BK109:=n4_;have GW109:=n5_;have GE109:=n6_;have NB0_109:=n7_;have NB109_0:=n8_;have NB0_109:=n9_;have NB109_0:=n10_;clear n0_ n1_ n2_ n3_ n4_ n5_ n6_ n7_ n8_ n9_ n10_;clear hb hbox hg;refine hK.out _ _ ⟨(zF BKp0.out 0).trans rfl,(zF BKp0.out 1).trans rfl,(zF BKp0.out 2).trans rfl,(zF BKp0.out 3).trans rfl⟩ (fun hHeld=>?_);clear hK K;refine norm_ (a':=?_) ?_ ?_;rotate_left
   ·show Act.put _ (some 7) _=_
    simp only[Act.put,zH,zI,zJ,i64_w,i32_w];rfl
   refine one_ (i:=9) (N:=some 22) #[J,J,J,J,J,J,J,J,J,J,O,O,O,J,O,O] rfl rfl (one_of HT_.out (by kernel_rfl)) (by decide) (fun K hK=>?_);refine goes_ Try.func73 (by kernel_rfl) rfl #[.string s0_0,.int .i64 s0_1,.int .i64 a1] (by rfl) rfl rfl qG ?_;with_reducible refine(bJ.calls k s0_0 s0_1 a1 t106 t107 t108 _ A6.out).mono ?_
   rintro e w11 ⟨rfl,hb⟩;refine⟨_,rfl,?_⟩;replace BKp0:=zA (qX BKp0.out hb);replace BK109:=zA (qX BK109.out hb);replace HK:=zA (zBq (qJ HK.out) (KeepBut.of_below hb g none) (.inl rfl));replace HB:=zA (zV (qH HI0.out HB.out) hb);replace HI0:=zA (IsS31.below (by repeat(first|(with_reducible first|exact HI0.out|apply IsS31.alloc|apply IsS31.drewN|apply IsS31.drew|refine IsS31.far ?_ NB0_0.out _|refine IsS31.far ?_ NB0_109.out _)|exact HI0.out)) hb);(try clear hb);refine hK.out _ _ ⟨(zF BKp0.out 0).trans rfl,(zF BKp0.out 1).trans rfl,(zF BKp0.out 2).trans rfl,(zF BKp0.out 3).trans rfl⟩ (fun hHeld=>?_);clear hK K;refine norm_ (a':=?_) ?_ ?_;rotate_left
   ·show Act.put _ (some 22) _=_
    simp only[Act.put,zH,zI,zJ,i64_w,i32_w];rfl
   refine pure_ (i:=10) (N:=some 12) #[J,J,J,J,J,J,J,J,J,J,J,O,O,J,O,O] rfl rfl (any_of HT_.out (by kernel_rfl)) (fun _ _ _ h=>h) (Or.inl ⟨by rfl,qy⟩) qz ?_;refine pure_ (i:=11) (N:=some 23) #[J,J,J,J,J,J,J,J,J,J,J,J,O,J,O,O] rfl rfl (any_of HT_.out (by kernel_rfl)) (fun _ _ _ h=>h) (Or.inl ⟨by rfl,qy⟩) qz ?_;refine pure_ (i:=12) (N:=some 24) #[J,J,J,J,J,J,J,J,J,J,J,J,J,J,O,O] rfl rfl (any_of HT_.out (by kernel_rfl)) (fun _ _ _ h=>h) (Or.inl ⟨by rfl,qy⟩) qz ?_;exact norm_ (by simp only[putAll,Act.put,zH,zI,zJ]) (hCont (gb109) _ ⟨hHeld,(qW BK109.out),(qW BKp0.out),GW109.out,GE109.out,NB0_109.out,NB109_0.out,(by repeat(first|(with_reducible first|exact HI0.out|apply IsS31.alloc|apply IsS31.drewN|apply IsS31.drew|refine IsS31.far ?_ NB0_0.out _|refine IsS31.far ?_ NB0_109.out _)|exact HI0.out)),(qJ HK.out),(qH HI0.out HB.out)⟩)
  rintro gb109 w12 ⟨hS_,h0_,h1_,h2_,h3_,h4_,h5_,h6_,h7_,h8_⟩;have n0_:Aside0 (w12.heap[gb109]? =some (.cells #[.int .i64 0,.int .i64 0] 130 (0,0))):=⟨h0_⟩
  have n1_:Aside0 (w12.heap[g]? =some (.cells #[.string s0_0,.int .i64 s0_1,errW s0_2,.bool s0_3] 31 (0,0))):=⟨h1_⟩
  have n2_:Aside0 (w.heap.size≤gb109):=⟨h2_⟩
  have n3_:Aside0 (w0.heap.size≤gb109):=⟨h3_⟩
  have n4_:Aside0 (g≠gb109):=⟨h4_⟩
  have n5_:Aside0 (gb109≠g):=⟨h5_⟩
  have n6_:Aside0 (IsS31 w0 w12 g s0_0 s0_1 s0_2 s0_3):=⟨h6_⟩
  have n7_:Aside0 (KeepBut w w12 g none):=⟨h7_⟩
  have n8_:Aside0 (Below w0.heap.size w0 w12):=⟨h8_⟩
  clear BKp0;clear HI0;clear HK;clear HB;clear h0_ h1_ h2_ h3_ h4_ h5_ h6_ h7_ h8_;have BK109:=n0_;have BKp0:=n1_;have GW109:=n2_;have GE109:=n3_;have NB0_109:=n4_;have NB109_0:=n5_;have HI0:=n6_;have HK:=n7_;have HB:=n8_;clear n0_ n1_ n2_ n3_ n4_ n5_ n6_ n7_ n8_;have hHeld:w12.cell? ⟨g,0,none⟩=some (.string s0_0)∧w12.cell? ⟨g,1,none⟩=some (.int .i64 s0_1)∧w12.cell? ⟨g,2,none⟩=some (errW s0_2)∧w12.cell? ⟨g,3,none⟩=some (.bool s0_3):=hS_;refine norm_ (a':=?_) ?_ ?_;rotate_left
  ·simp only[putAll,Act.put,zH,zI,zJ]
   rfl
  refine one_ (i:=14) (N:=none) #[J,J,J,J,J,J,J,J,J,J,J,J,J,J,J,O] rfl rfl (one_of HT_.out (by kernel_rfl)) (by decide) (fun K hK=>?_);have hs13:w12.cell? ⟨gb109,0,none⟩=some (.int .i64 0):=(zF BK109.out 0).trans rfl;have hfs13:=zG BK109.out 0;have hns13_0:=NB0_109.out;have hms13_0:=NB109_0.out;have hs14:w12.cell? ⟨gb109,1,none⟩=some (.int .i64 0):=(zF BK109.out 1).trans rfl;have hfs14:=zG BK109.out 1;have hns14_0:=NB0_109.out;have hms14_0:=NB109_0.out;refine skip_ (w1:=?_) (by rfl) rfl ?_ ?_;rotate_left
  ·go_simp
   rfl
  refine hK.out _ _ ⟨((cell_far (p:=⟨gb109,_,none⟩) NB0_109.out _).trans (((cell_far (p:=⟨gb109,_,none⟩) NB0_109.out _).trans (hHeld.1)))),((cell_far (p:=⟨gb109,_,none⟩) NB0_109.out _).trans (((cell_far (p:=⟨gb109,_,none⟩) NB0_109.out _).trans (hHeld.2.1)))),((cell_far (p:=⟨gb109,_,none⟩) NB0_109.out _).trans (((cell_far (p:=⟨gb109,_,none⟩) NB0_109.out _).trans (hHeld.2.2.1)))),((cell_far (p:=⟨gb109,_,none⟩) NB0_109.out _).trans (((cell_far (p:=⟨gb109,_,none⟩) NB0_109.out _).trans (hHeld.2.2.2))))⟩ (fun hHeld=>?_);clear hK K;refine pure_ (i:=15) (N:=some 8) #[J,J,J,J,J,J,J,J,J,J,J,J,J,J,J,J] rfl rfl (any_of HT_.out (by kernel_rfl)) (fun _ _ _ h=>h) (Or.inl ⟨by rfl,qy⟩) qz ?_;refine done_ (done_of HT_.out (by kernel_rfl)) ?_;clear BKp0;go_upto_region 4 with(fail)
  go_cut[32] (fun v32 wc=> ∃ (kq:Nat) (x32_6:Bool),v32= .bool x32_6∧Aside0 (aQ.j0 kq t108 x32_6 s0_0 s0_1 s0_2 s0_3 t106 t107=some (r1,r2,r3,r4,r5))∧Aside0 (kq≤k)∧Aside0 (wc.heap[gb109]? =some (.cells #[.int .i64 t106,.int .i64 t107] 130 (0,0)))∧Aside0 (IsS31 w0 wc g s0_0 s0_1 s0_2 s0_3)∧Aside0 (KeepBut w wc g none)∧Aside0 (Below w0.heap.size w0 wc))
  case first=>
   have H:=HC7.out;clear HC7;by_cases c15:t108=0
   ·rw[if_pos c15] at H
    have c15b0:(t108==0)=true:=beq_iff_eq.mpr c15;have c15b1:(t108 != 0)=false:=bne_eq_false_iff_eq.mpr c15;clear c15;(first|rw[c15b0] |(simp only[i64_w,i32_w];rw[c15b0])|skip)
    have H':=zA H;clear H;have hnb16:=NB109_0.out;have hnc16:=NB0_109.out;obtain⟨_,_,_,_⟩:=qc2f BK109.out;go_wp2;go_meet
    case rel=>exact⟨_,(decide (t106 > a2)),qF_,H',⟨by first|omega|exact Nat.le_refl _⟩,⟨by(with_reducible repeat(first|refine zY ?_ _|refine zAq ?_|refine zZ ?_ _));apply qP2;exact BK109.out⟩,⟨by repeat(first|(with_reducible first|exact HI0.out|apply IsS31.alloc|apply IsS31.drewN|apply IsS31.drew|refine IsS31.far ?_ NB0_109.out _)|exact HI0.out)⟩,⟨qJ HK.out⟩,⟨qH HI0.out HB.out⟩⟩
   rw[if_neg c15] at H;have c15b0:(t108==0)=false:=beq_eq_false_iff_ne.mpr c15;have c15b1:(t108 != 0)=true:=bne_iff_ne.mpr c15;(first|rw[c15b0] |(simp only[i64_w,i32_w];rw[c15b0])|skip)
   have H':=zA H;clear H;go_wp2;go_meet
   case rel=>exact⟨_,(false),qF_,H',⟨by first|omega|exact Nat.le_refl _⟩,⟨by(with_reducible repeat(first|refine zY ?_ _|refine zAq ?_|refine zZ ?_ _));apply qP2;exact BK109.out⟩,⟨by repeat(first|(with_reducible first|exact HI0.out|apply IsS31.alloc|apply IsS31.drewN|apply IsS31.drew|refine IsS31.far ?_ NB0_109.out _)|exact HI0.out)⟩,⟨qJ HK.out⟩,⟨qH HI0.out HB.out⟩⟩
  case rest=>
   clear HC7;try clear c1
   try clear p2
   try clear c5
   try clear c7
   try clear c15
   try clear c15b0
   try clear c15b1
   try clear c16
   obtain⟨kq,x32_6,rfl,HA,HJ6,BK109,HI0,HK,HB⟩:=hcut;cases kq with
   |zero=>exact absurd HA.out (by simp[aQ.j0])
   |succ kj6=>
    have H:=HA.out;clear HA;simp only[aQ.j0] at H;by_cases c18:x32_6=true
    ·subst c18
     have H1:((bQ.f s0_0 s0_1 s0_2 s0_3 t107 3).bind fun bt110=> (if bt110.1=true then(some (t106,bt110.2.1,bt110.2.2.1,bt110.2.2.2.1,bt110.2.2.2.2))else(some (0,bt110.2.1,bt110.2.2.1,bt110.2.2.2.1,bt110.2.2.2.2))))=some (r1,r2,r3,r4,r5):=by first|(rw[if_pos rfl] at H;exact H)|rfl
     clear H;have H:=H1;clear H1;obtain⟨⟨t110,t111,t112,t113,t114⟩,A19,H⟩:=qD_ H;(try dsimp only at H);by_cases c20:t110=true
     ·subst c20
      have H1:(some (t106,t111,t112,t113,t114))=some (r1,r2,r3,r4,r5):=by first|(rw[if_pos rfl] at H;exact H)|rfl
      clear H;have H:=H1;clear H1;simp only[zNq,zOq] at H;obtain⟨rfl,rfl,rfl,rfl,rfl⟩:=H;have hnb21:=NB109_0.out;have hnc21:=NB0_109.out;obtain⟨_,_,_,_⟩:=qc2f BK109.out;go_wp2_with (first|((with_reducible refine zJq (f:=74) rfl ?_);refine goesL_ (some 37) rfl rfl Try.func74 (by kernel_rfl) rfl #[.pointer (some ⟨g,0,none⟩),.int .i64 t107,.int .i64 3] rfl qG ?_;(with_reducible refine(bQ.calls g s0_0 s0_1 s0_2 s0_3 t107 3 true t111 t112 t113 t114 w0 _ ?side1 ?side2 A19.out).mono ?_);(case side1=>repeat(first|(with_reducible first|exact HI0.out|apply IsS31.alloc|apply IsS31.drewN|apply IsS31.drew|refine IsS31.far ?_ NB0_109.out _)|exact HI0.out));(case side2=>repeat(first|(with_reducible first|exact HB.out|apply zD|apply zB|apply zC|refine zE ?_ (IsS31.ge HI0.out)|refine zE ?_ GE109.out)|exact HB.out));rintro e w23 ⟨rfl,hi,hb,hk⟩;refine⟨_,rfl,?_⟩;replace BK109:=zA (KeepBut.blk hk (g':=gb109) (o:= .cells #[.int .i64 t106,.int .i64 t107] 130 (0,0)) (qW BK109.out) NB109_0.out (by simp));replace HK:=zA (zBq (qJ HK.out) hk (.inl rfl));replace HB:=zA (hb);replace HI0:=zA (hi);(try clear hb);(try clear hk);(try clear hi);(try simp only[errW_none,errW_some]);obtain⟨_,_,_,_⟩:=qc2f BK109.out));go_ret;exact⟨qE,by repeat(first|(with_reducible first|exact HI0.out|apply IsS31.alloc|apply IsS31.drewN|apply IsS31.drew|refine IsS31.far ?_ NB0_109.out _)|exact HI0.out),qH HI0.out HB.out,qJ HK.out⟩
     replace c20:=Bool.eq_false_iff.mpr c20;subst c20;have H1:(some (0,t111,t112,t113,t114))=some (r1,r2,r3,r4,r5):=by first|(rw[if_neg (show ¬ (false=true) by decide)] at H;exact H)|rfl
     clear H;have H:=H1;clear H1;simp only[zNq,zOq] at H;obtain⟨rfl,rfl,rfl,rfl,rfl⟩:=H;have hnb25:=NB109_0.out;have hnc25:=NB0_109.out;obtain⟨_,_,_,_⟩:=qc2f BK109.out;go_wp2_with (first|((with_reducible refine zJq (f:=74) rfl ?_);refine goesL_ (some 37) rfl rfl Try.func74 (by kernel_rfl) rfl #[.pointer (some ⟨g,0,none⟩),.int .i64 t107,.int .i64 3] rfl qG ?_;(with_reducible refine(bQ.calls g s0_0 s0_1 s0_2 s0_3 t107 3 false t111 t112 t113 t114 w0 _ ?side1 ?side2 A19.out).mono ?_);(case side1=>repeat(first|(with_reducible first|exact HI0.out|apply IsS31.alloc|apply IsS31.drewN|apply IsS31.drew|refine IsS31.far ?_ NB0_109.out _)|exact HI0.out));(case side2=>repeat(first|(with_reducible first|exact HB.out|apply zD|apply zB|apply zC|refine zE ?_ (IsS31.ge HI0.out)|refine zE ?_ GE109.out)|exact HB.out));rintro e w27 ⟨rfl,hi,hb,hk⟩;refine⟨_,rfl,?_⟩;replace BK109:=zA (KeepBut.blk hk (g':=gb109) (o:= .cells #[.int .i64 t106,.int .i64 t107] 130 (0,0)) (qW BK109.out) NB109_0.out (by simp));replace HK:=zA (zBq (qJ HK.out) hk (.inl rfl));replace HB:=zA (hb);replace HI0:=zA (hi);(try clear hb);(try clear hk);(try clear hi);(try simp only[errW_none,errW_some])));go_ret;exact⟨qE,by repeat(first|(with_reducible first|exact HI0.out|apply IsS31.alloc|apply IsS31.drewN|apply IsS31.drew|refine IsS31.far ?_ NB0_109.out _)|exact HI0.out),qH HI0.out HB.out,qJ HK.out⟩
    replace c18:=Bool.eq_false_iff.mpr c18;subst c18;have H1:((bQ.f s0_0 s0_1 s0_2 s0_3 t107 t108).bind fun bt115=> (if bt115.1=true then(some (t106,bt115.2.1,bt115.2.2.1,bt115.2.2.2.1,bt115.2.2.2.2))else(some (0,bt115.2.1,bt115.2.2.1,bt115.2.2.2.1,bt115.2.2.2.2))))=some (r1,r2,r3,r4,r5):=by first|(rw[if_neg (show ¬ (false=true) by decide)] at H;exact H)|rfl
    clear H;have H:=H1;clear H1;obtain⟨⟨t115,t116,t117,t118,t119⟩,A28,H⟩:=qD_ H;(try dsimp only at H);by_cases c29:t115=true
    ·subst c29
     have H1:(some (t106,t116,t117,t118,t119))=some (r1,r2,r3,r4,r5):=by first|(rw[if_pos rfl] at H;exact H)|rfl
     clear H;have H:=H1;clear H1;simp only[zNq,zOq] at H;obtain⟨rfl,rfl,rfl,rfl,rfl⟩:=H;have hnb30:=NB109_0.out;have hnc30:=NB0_109.out;obtain⟨_,_,_,_⟩:=qc2f BK109.out;go_wp2_with (first|((with_reducible refine zJq (f:=74) rfl ?_);refine goesL_ (some 37) rfl rfl Try.func74 (by kernel_rfl) rfl #[.pointer (some ⟨g,0,none⟩),.int .i64 t107,.int .i64 t108] rfl qG ?_;(with_reducible refine(bQ.calls g s0_0 s0_1 s0_2 s0_3 t107 t108 true t116 t117 t118 t119 w0 _ ?side1 ?side2 A28.out).mono ?_);(case side1=>repeat(first|(with_reducible first|exact HI0.out|apply IsS31.alloc|apply IsS31.drewN|apply IsS31.drew|refine IsS31.far ?_ NB0_109.out _)|exact HI0.out));(case side2=>repeat(first|(with_reducible first|exact HB.out|apply zD|apply zB|apply zC|refine zE ?_ (IsS31.ge HI0.out)|refine zE ?_ GE109.out)|exact HB.out));rintro e w32 ⟨rfl,hi,hb,hk⟩;refine⟨_,rfl,?_⟩;replace BK109:=zA (KeepBut.blk hk (g':=gb109) (o:= .cells #[.int .i64 t106,.int .i64 t107] 130 (0,0)) (qW BK109.out) NB109_0.out (by simp));replace HK:=zA (zBq (qJ HK.out) hk (.inl rfl));replace HB:=zA (hb);replace HI0:=zA (hi);(try clear hb);(try clear hk);(try clear hi);(try simp only[errW_none,errW_some]);obtain⟨_,_,_,_⟩:=qc2f BK109.out));go_ret;exact⟨qE,by repeat(first|(with_reducible first|exact HI0.out|apply IsS31.alloc|apply IsS31.drewN|apply IsS31.drew|refine IsS31.far ?_ NB0_109.out _)|exact HI0.out),qH HI0.out HB.out,qJ HK.out⟩
    replace c29:=Bool.eq_false_iff.mpr c29;subst c29;have H1:(some (0,t116,t117,t118,t119))=some (r1,r2,r3,r4,r5):=by first|(rw[if_neg (show ¬ (false=true) by decide)] at H;exact H)|rfl
    clear H;have H:=H1;clear H1;simp only[zNq,zOq] at H;obtain⟨rfl,rfl,rfl,rfl,rfl⟩:=H;have hnb34:=NB109_0.out;have hnc34:=NB0_109.out;obtain⟨_,_,_,_⟩:=qc2f BK109.out;go_wp2_with (first|((with_reducible refine zJq (f:=74) rfl ?_);refine goesL_ (some 37) rfl rfl Try.func74 (by kernel_rfl) rfl #[.pointer (some ⟨g,0,none⟩),.int .i64 t107,.int .i64 t108] rfl qG ?_;(with_reducible refine(bQ.calls g s0_0 s0_1 s0_2 s0_3 t107 t108 false t116 t117 t118 t119 w0 _ ?side1 ?side2 A28.out).mono ?_);(case side1=>repeat(first|(with_reducible first|exact HI0.out|apply IsS31.alloc|apply IsS31.drewN|apply IsS31.drew|refine IsS31.far ?_ NB0_109.out _)|exact HI0.out));(case side2=>repeat(first|(with_reducible first|exact HB.out|apply zD|apply zB|apply zC|refine zE ?_ (IsS31.ge HI0.out)|refine zE ?_ GE109.out)|exact HB.out));rintro e w36 ⟨rfl,hi,hb,hk⟩;refine⟨_,rfl,?_⟩;replace BK109:=zA (KeepBut.blk hk (g':=gb109) (o:= .cells #[.int .i64 t106,.int .i64 t107] 130 (0,0)) (qW BK109.out) NB109_0.out (by simp));replace HK:=zA (zBq (qJ HK.out) hk (.inl rfl));replace HB:=zA (hb);replace HI0:=zA (hi);(try clear hb);(try clear hk);(try clear hi);(try simp only[errW_none,errW_some])));go_ret;exact⟨qE,by repeat(first|(with_reducible first|exact HI0.out|apply IsS31.alloc|apply IsS31.drewN|apply IsS31.drew|refine IsS31.far ?_ NB0_109.out _)|exact HI0.out),qH HI0.out HB.out,qJ HK.out⟩
 replace c5:=Bool.eq_false_iff.mpr c5
 subst c5
 have H1:(some (0,s0_0,s0_1,s0_2,s0_3))=some (r1,r2,r3,r4,r5):=by first|(rw[if_neg (show ¬ (false=true) by decide)] at H;exact H)|rfl
 clear H
 have H:=H1
 clear H1
 simp only[zNq,zOq] at H
 obtain⟨rfl,rfl,rfl,rfl,rfl⟩:=H
 go_enter Try.func19,Try.ntmps19
 go_wp2_with (first|((with_reducible refine zJq (f:=72) rfl ?_);refine goesL_ (some 10) rfl rfl Try.func72 (by kernel_rfl) rfl #[.pointer (some ⟨g,0,none⟩)] rfl qG ?_;(with_reducible refine(bP.calls g s0_0 s0_1 s0_2 s0_3 false s0_0 s0_1 s0_2 s0_3 w0 _ ?side1 ?side2 A4.out).mono ?_);(case side1=>repeat(first|(with_reducible first|exact HI0.out|apply IsS31.alloc|apply IsS31.drewN|apply IsS31.drew)|exact HI0.out));(case side2=>repeat(first|(with_reducible first|exact HB.out|apply zD|apply zB|apply zC|refine zE ?_ (IsS31.ge HI0.out))|exact HB.out));rintro e w37 ⟨rfl,hi,hb,hk⟩;refine⟨_,rfl,?_⟩;replace HK:=zA (zBq (qJ HK.out) hk (.inl rfl));replace HB:=zA (hb);replace HI0:=zA (hi);(try clear hb);(try clear hk);(try clear hi);(try simp only[errW_none,errW_some])))
 go_ret
 exact⟨qE,by repeat(first|(with_reducible first|exact HI0.out|apply IsS31.alloc|apply IsS31.drewN|apply IsS31.drew)|exact HI0.out),qH HI0.out HB.out,qJ HK.out⟩
end Go.Proofs.Ytdpcgigjlcpofaa.F
namespace Go.Proofs.Ytdpcgigjlcpofaa.F
open Go.RowKit Go.Proofs.YtdpcgigjlcpofaaX Go.Proofs.YtdpcgigjlcpofaaW.PrintWords Go.Proofs.YtdpcgigjlcpofaaW.PrintLast Go.Proofs.YtdpcgigjlcpofaaW.PrintMore
attribute [local go_sem] max2_int min2_int max_two min_two max_three min_three max_four min_four
attribute [local go_sem high] str_geq str_leq str_gtr
set_option linter.unusedVariables false
set_option linter.unusedSimpArgs false
def cD.f (a0:Int):Option (ByteArray × Int × Int):=some ((⟨#[]⟩:ByteArray),0,a0)
theorem cD.calls (a0:Int) (r1:ByteArray) (r2:Int) (r3:Int) (w:World) (h:cD.f a0=some (r1,r2,r3)):
  Calls Try.prog 125 #[.int .i64 a0] w fun e w'=>e= .returned (.tuple #[.agg #[.string r1,.int .i64 r2],.int .i64 r3])∧Below w.heap.size w w':=by
 have hu135:=Try.underlying135
 have HB:=zA (Below.refl w.heap.size w)
 have H:(some ((⟨#[]⟩:ByteArray),0,a0))=some (r1,r2,r3):=h
 clear h
 simp only[zNq,zOq] at H
 obtain⟨rfl,rfl,rfl⟩:=H
 go_enter Try.func125,Try.ntmps125
 go_wp2_with (first|((with_reducible refine gate_dst (N:=2) rfl ?_);refine box_event qr (N:=2) qr (cs:= #[.string (⟨#[]⟩:ByteArray),.int .i64 0]) (t:=135) qg ?_;intro gb101 hg w2 hbox hb;have BK101:=zA (hbox);have GW101:=zA ((qS:w.heap.size≤gb101));have GE101:=zA ((qS:w.heap.size≤gb101));replace HB:=zA (zV qB hb);clear hb hbox hg;obtain⟨_,_,_,_⟩:=qc2f BK101.out))
 refine bodyPost_ret (results_ct rfl _ _ gb101 135 #[.string (⟨#[]⟩:ByteArray),.int .i64 0] (0,0) _ rfl (qV BK101.out) Try.underlying135 rfl (by kernel_rfl)) rfl ?_
 exact⟨qE,qB⟩
end Go.Proofs.Ytdpcgigjlcpofaa.F
namespace Go.Proofs.Ytdpcgigjlcpofaa.F
open Go.RowKit Go.Proofs.YtdpcgigjlcpofaaX Go.Proofs.YtdpcgigjlcpofaaW.PrintWords Go.Proofs.YtdpcgigjlcpofaaW.PrintLast Go.Proofs.YtdpcgigjlcpofaaW.PrintMore
attribute [local go_sem] max2_int min2_int max_two min_two max_three min_three max_four min_four
attribute [local go_sem high] str_geq str_leq str_gtr
set_option linter.unusedVariables false
set_option linter.unusedSimpArgs false
def cV.f (a0:ByteArray) (a1:Int):Option (ByteArray × Int × Int):=some (a0,a1,0)
theorem cV.calls (a0:ByteArray) (a1:Int) (r1:ByteArray) (r2:Int) (r3:Int) (w:World) (h:cV.f a0 a1=some (r1,r2,r3)):
  Calls Try.prog 126 #[.string a0,.int .i64 a1] w fun e w'=>e= .returned (.tuple #[.agg #[.string r1,.int .i64 r2],.int .i64 r3])∧Below w.heap.size w w':=by
 have hu135:=Try.underlying135
 have HB:=zA (Below.refl w.heap.size w)
 have H:(some (a0,a1,0))=some (r1,r2,r3):=h
 clear h
 simp only[zNq,zOq] at H
 obtain⟨rfl,rfl,rfl⟩:=H
 go_enter Try.func126,Try.ntmps126
 go_wp2_with (first|((with_reducible refine gate_dst (N:=4) rfl ?_);refine box_event qr (N:=4) qr (cs:= #[.string (⟨#[]⟩:ByteArray),.int .i64 0]) (t:=135) qg ?_;intro gb101 hg w3 hbox hb;have BK101:=zA (hbox);have GW101:=zA ((qS:w.heap.size≤gb101));have GE101:=zA ((qS:w.heap.size≤gb101));replace HB:=zA (zV qB hb);clear hb hbox hg;obtain⟨_,_,_,_⟩:=qc2f BK101.out))
 refine bodyPost_ret (results_ct rfl _ _ gb101 135 #[.string a0,.int .i64 a1] (0,0) _ rfl (qV BK101.out) Try.underlying135 rfl (by kernel_rfl)) rfl ?_
 exact⟨qE,qB⟩
end Go.Proofs.Ytdpcgigjlcpofaa.F
namespace Go.Proofs.Ytdpcgigjlcpofaa.F
open Go.RowKit Go.Proofs.YtdpcgigjlcpofaaX Go.Proofs.YtdpcgigjlcpofaaW.PrintWords Go.Proofs.YtdpcgigjlcpofaaW.PrintLast Go.Proofs.YtdpcgigjlcpofaaW.PrintMore
attribute [local go_sem] max2_int min2_int max_two min_two max_three min_three max_four min_four
attribute [local go_sem high] str_geq str_leq str_gtr
set_option linter.unusedVariables false
set_option linter.unusedSimpArgs false
def cC.f (k:Nat) (a0:ByteArray) (a1:Int) (a2:Int):Option (ByteArray × Int × Int):=if a2 < 0 then((cD.f 2).bind fun bt102=> (some (bt102.1,bt102.2.1,bt102.2.2)))else((bJ.f k a0 a1 2).bind fun bt105=> (if bt105.2.2=0 then(if bt105.1 > a2 then((cD.f 3).bind fun bt112=> (some (bt112.1,bt112.2.1,bt112.2.2)))else(if bt105.1 > (wrap64 ((a0.size:Int) - bt105.2.1))then((cD.f 4).bind fun bt115=> (some (bt115.1,bt115.2.1,bt115.2.2)))else(if 0≤bt105.2.1 then(if bt105.2.1≤(wrap64 (bt105.2.1+bt105.1))then(if(wrap64 (bt105.2.1+bt105.1))≤(a0.size:Int)then((cV.f (a0.extract (bt105.2.1:Int).toNat ((wrap64 (bt105.2.1+bt105.1)):Int).toNat) (wrap64 (bt105.2.1+bt105.1))).bind fun bt118=> (some (bt118.1,bt118.2.1,bt118.2.2)))else(none))else(none))else(none))))else((cD.f bt105.2.2).bind fun bt109=> (some (bt109.1,bt109.2.1,bt109.2.2)))))
theorem cC.mono: ∀ a0 a1 a2 k,LeO (cC.f k a0 a1 a2) (cC.f (k+1) a0 a1 a2):=by
  intro a0 a1 a2 k
  unfold cC.f
  repeat' (with_reducible first|exact bJ.mono _ _ _ _|exact LeO.refl _|exact LeO.none _|refine LeO.ite ?_ ?_|refine LeO.bind ?_ (fun _=>?_))
def cC.T10:Bool × List (List Nat × List Nat):=(true,[([],[]),([],[]),([1],[1]),([],[]),([3],[3]),([],[]),([5],[5]),([4,6],[4,6]),([0,2,7],[0,2,7]),([],[]),([9],[9]),([],[]),([11],[11]),([10,12],[10,12]),([8,13],[8,13]),([14],[14]),([14],[14]),([15,14,0,1,2,3,4,5,6,7,8,9,10,11,12,13,14,15,16],[15]),([16,17,0,1,2,3,4,5,6,7,8,9,10,11,12,13,14,15,16,17],[16])])
def cC.B10:List Nat:=[0,0,2,0,8,0,32,120,255,0,512,0,2048,7680,16383,32767,32767,131071,262143]
theorem cC.tab10:rtab .any (opsOf Try.f75 10)=cC.T10:=by kernel_rfl
theorem cC.bits10:waitsOk cC.T10.2 cC.B10=true:=by kernel_rfl
theorem cC.calls (k:Nat) (a0:ByteArray) (a1:Int) (a2:Int) (r1:ByteArray) (r2:Int) (r3:Int) (w:World) (h:cC.f k a0 a1 a2=some (r1,r2,r3)):
  Calls Try.prog 75 #[.string a0,.int .i64 a1,.int .i64 a2] w fun e w'=>e= .returned (.tuple #[.agg #[.string r1,.int .i64 r2],.int .i64 r3])∧Below w.heap.size w w':=by
 have hu135:=Try.underlying135
 have hu130:=Try.underlying130
 have HB:=zA (Below.refl w.heap.size w)
 have H:(if a2 < 0 then((cD.f 2).bind fun bt102=> (some (bt102.1,bt102.2.1,bt102.2.2)))else((bJ.f k a0 a1 2).bind fun bt105=> (if bt105.2.2=0 then(if bt105.1 > a2 then((cD.f 3).bind fun bt112=> (some (bt112.1,bt112.2.1,bt112.2.2)))else(if bt105.1 > (wrap64 ((a0.size:Int) - bt105.2.1))then((cD.f 4).bind fun bt115=> (some (bt115.1,bt115.2.1,bt115.2.2)))else(if 0≤bt105.2.1 then(if bt105.2.1≤(wrap64 (bt105.2.1+bt105.1))then(if(wrap64 (bt105.2.1+bt105.1))≤(a0.size:Int)then((cV.f (a0.extract (bt105.2.1:Int).toNat ((wrap64 (bt105.2.1+bt105.1)):Int).toNat) (wrap64 (bt105.2.1+bt105.1))).bind fun bt118=> (some (bt118.1,bt118.2.1,bt118.2.2)))else(none))else(none))else(none))))else((cD.f bt105.2.2).bind fun bt109=> (some (bt109.1,bt109.2.1,bt109.2.2))))))=some (r1,r2,r3):=h
 clear h
 by_cases c4:a2 < 0
 ·rw[if_pos c4] at H
  have c4b0:=zFq c4;clear c4;obtain⟨⟨t102,t103,t104⟩,A5,H⟩:=qD_ H;(try dsimp only at H);simp only[zNq,zOq] at H;obtain⟨rfl,rfl,rfl⟩:=H;go_enter Try.func75,Try.ntmps75;go_wp2_with (first|((with_reducible refine gate_dst (N:=6) rfl ?_);refine box_event qr (N:=6) qr (cs:= #[.string (⟨#[]⟩:ByteArray),.int .i64 0]) (t:=135) qg ?_;intro gb101 hg w6 hbox hb;have BK101:=zA (hbox);have GW101:=zA ((qS:w.heap.size≤gb101));have GE101:=zA ((qS:w.heap.size≤gb101));replace HB:=zA (zV qB hb);clear hb hbox hg)|((with_reducible refine zJq (f:=125) rfl ?_);refine goesL_ (some 12) rfl rfl Try.func125 (by kernel_rfl) rfl #[.int .i64 2] rfl qG ?_;(with_reducible refine(cD.calls 2 t102 t103 t104 _ A5.out).mono ?_);rintro e w7 ⟨rfl,hb⟩;refine⟨_,rfl,?_⟩;replace BK101:=zA (qX BK101.out hb);replace HB:=zA (zV qB hb);(try clear hb);obtain⟨_,_,_,_⟩:=qc2f BK101.out));refine bodyPost_ret (results_ct rfl _ _ gb101 135 #[.string t102,.int .i64 t103] (0,0) _ rfl (qV BK101.out) Try.underlying135 rfl (by kernel_rfl)) rfl ?_;exact⟨qE,qB⟩
 rw[if_neg c4] at H
 have c4b0:=zGq c4
 clear c4
 obtain⟨⟨t105,t106,t107⟩,A9,H⟩:=qD_ H
 (try dsimp only at H)
 by_cases c10:t107=0
 ·rw[if_pos c10] at H
  have c10b0:(t107==0)=true:=beq_iff_eq.mpr c10;have c10b1:(t107 != 0)=false:=bne_eq_false_iff_eq.mpr c10;clear c10;by_cases c11:t105 > a2
  ·rw[if_pos c11] at H
   have c11b0:decide (a2 < t105)=true:=zFq c11;clear c11;obtain⟨⟨t112,t113,t114⟩,A12,H⟩:=qD_ H;(try dsimp only at H);simp only[zNq,zOq] at H;obtain⟨rfl,rfl,rfl⟩:=H;go_enter Try.func75,Try.ntmps75;go_wp2_with (first|((with_reducible refine gate_dst (N:=6) rfl ?_);refine box_event qr (N:=6) qr (cs:= #[.string (⟨#[]⟩:ByteArray),.int .i64 0]) (t:=135) qg ?_;intro gb101 hg w13 hbox hb;have BK101:=zA (hbox);have GW101:=zA ((qS:w.heap.size≤gb101));have GE101:=zA ((qS:w.heap.size≤gb101));replace HB:=zA (zV qB hb);clear hb hbox hg)|((with_reducible refine zJq (f:=73) rfl ?_);refine goesL_ (some 18) rfl rfl Try.func73 (by kernel_rfl) rfl #[.string a0,.int .i64 a1,.int .i64 2] rfl qG ?_;(with_reducible refine(bJ.calls k a0 a1 2 t105 t106 t107 _ A9.out).mono ?_);rintro e w14 ⟨rfl,hb⟩;refine⟨_,rfl,?_⟩;replace BK101:=zA (qX BK101.out hb);replace HB:=zA (zV qB hb);(try clear hb))|((with_reducible refine gate_dst (N:=8) rfl ?_);refine box_event qr (N:=8) qr (cs:= #[.int .i64 0,.int .i64 0]) (t:=130) qg ?_;intro gb108 hg w15 hbox hb;have BK108:=zA (hbox);have GW108:=zA ((qS:w.heap.size≤gb108));have GE108:=zA ((qS:w.heap.size≤gb108));replace HB:=zA (zV qB hb);have NB101_108:=zA ((by rw[hg];exact zLq (qL BK101.out):gb101≠gb108));have NB108_101:=zA ((by rw[hg];exact zMq (qL BK101.out):gb108≠gb101));replace BK101:=zA (qX BK101.out hb);clear hb hbox hg;have hnb16:=NB108_101.out;have hnc16:=NB101_108.out;obtain⟨_,_,_,_⟩:=qc2f BK108.out)|((with_reducible refine zJq (f:=125) rfl ?_);refine goesL_ (some 31) rfl rfl Try.func125 (by kernel_rfl) rfl #[.int .i64 3] rfl qG ?_;(with_reducible refine(cD.calls 3 t112 t113 t114 _ A12.out).mono ?_);rintro e w18 ⟨rfl,hb⟩;refine⟨_,rfl,?_⟩;replace BK101:=zA (qX BK101.out hb);replace BK108:=zA (zX (g:=gb108) (o:= .cells #[.int .i64 t105,.int .i64 t106] 130 (0,0)) (qV BK108.out) hb);replace HB:=zA (zV qB hb);(try clear hb);obtain⟨_,_,_,_⟩:=qc2f BK101.out));refine bodyPost_ret (results_ct rfl _ _ gb101 135 #[.string t112,.int .i64 t113] (0,0) _ rfl (qV BK101.out) Try.underlying135 rfl (by kernel_rfl)) rfl ?_;exact⟨qE,qB⟩
  rw[if_neg c11] at H;have c11b0:decide (a2 < t105)=false:=zGq c11;clear c11;by_cases c20:t105 > (wrap64 ((a0.size:Int) - t106))
  ·rw[if_pos c20] at H
   have c20b0:decide ((wrap64 ((a0.size:Int) - t106)) < t105)=true:=zFq c20;clear c20;obtain⟨⟨t115,t116,t117⟩,A21,H⟩:=qD_ H;(try dsimp only at H);simp only[zNq,zOq] at H;obtain⟨rfl,rfl,rfl⟩:=H;go_enter Try.func75,Try.ntmps75;go_wp2_with (first|((with_reducible refine gate_dst (N:=6) rfl ?_);refine box_event qr (N:=6) qr (cs:= #[.string (⟨#[]⟩:ByteArray),.int .i64 0]) (t:=135) qg ?_;intro gb101 hg w22 hbox hb;have BK101:=zA (hbox);have GW101:=zA ((qS:w.heap.size≤gb101));have GE101:=zA ((qS:w.heap.size≤gb101));replace HB:=zA (zV qB hb);clear hb hbox hg)|((with_reducible refine zJq (f:=73) rfl ?_);refine goesL_ (some 18) rfl rfl Try.func73 (by kernel_rfl) rfl #[.string a0,.int .i64 a1,.int .i64 2] rfl qG ?_;(with_reducible refine(bJ.calls k a0 a1 2 t105 t106 t107 _ A9.out).mono ?_);rintro e w23 ⟨rfl,hb⟩;refine⟨_,rfl,?_⟩;replace BK101:=zA (qX BK101.out hb);replace HB:=zA (zV qB hb);(try clear hb))|((with_reducible refine gate_dst (N:=8) rfl ?_);refine box_event qr (N:=8) qr (cs:= #[.int .i64 0,.int .i64 0]) (t:=130) qg ?_;intro gb108 hg w24 hbox hb;have BK108:=zA (hbox);have GW108:=zA ((qS:w.heap.size≤gb108));have GE108:=zA ((qS:w.heap.size≤gb108));replace HB:=zA (zV qB hb);have NB101_108:=zA ((by rw[hg];exact zLq (qL BK101.out):gb101≠gb108));have NB108_101:=zA ((by rw[hg];exact zMq (qL BK101.out):gb108≠gb101));replace BK101:=zA (qX BK101.out hb);clear hb hbox hg;have hnb25:=NB108_101.out;have hnc25:=NB101_108.out;obtain⟨_,_,_,_⟩:=qc2f BK108.out)|((with_reducible refine zJq (f:=125) rfl ?_);refine goesL_ (some 42) rfl rfl Try.func125 (by kernel_rfl) rfl #[.int .i64 4] rfl qG ?_;(with_reducible refine(cD.calls 4 t115 t116 t117 _ A21.out).mono ?_);rintro e w27 ⟨rfl,hb⟩;refine⟨_,rfl,?_⟩;replace BK101:=zA (qX BK101.out hb);replace BK108:=zA (zX (g:=gb108) (o:= .cells #[.int .i64 t105,.int .i64 t106] 130 (0,0)) (qV BK108.out) hb);replace HB:=zA (zV qB hb);(try clear hb);obtain⟨_,_,_,_⟩:=qc2f BK101.out));refine bodyPost_ret (results_ct rfl _ _ gb101 135 #[.string t115,.int .i64 t116] (0,0) _ rfl (qV BK101.out) Try.underlying135 rfl (by kernel_rfl)) rfl ?_;exact⟨qE,qB⟩
  rw[if_neg c20] at H;have c20b0:decide ((wrap64 ((a0.size:Int) - t106)) < t105)=false:=zGq c20;clear c20;by_cases c29:0≤t106
  ·rw[if_pos c29] at H
   have c29b0:=eq_true c29;have c29b1:=zFq c29;clear c29;by_cases c30:t106≤(wrap64 (t106+t105))
   ·rw[if_pos c30] at H
    have c30b0:=eq_true c30;have c30b1:=zFq c30;by_cases c31:(wrap64 (t106+t105))≤(a0.size:Int)
    ·rw[if_pos c31] at H
     have c31b0:=eq_true c31;have c31b1:=zFq c31;obtain⟨⟨t118,t119,t120⟩,A32,H⟩:=qD_ H;(try dsimp only at H);simp only[zNq,zOq] at H;obtain⟨rfl,rfl,rfl⟩:=H;go_enter Try.func75,Try.ntmps75;try go_wp2_with (first|((with_reducible refine gate_dst (N:=6) rfl ?_);refine box_event qr (N:=6) qr (cs:= #[.string (⟨#[]⟩:ByteArray),.int .i64 0]) (t:=135) qg ?_;intro gb101 hg w33 hbox hb;have BK101:=zA (hbox);have GW101:=zA ((qS:w.heap.size≤gb101));have GE101:=zA ((qS:w.heap.size≤gb101));replace HB:=zA (zV qB hb);clear hb hbox hg)|((with_reducible refine zJq (f:=73) rfl ?_);refine goesL_ (some 18) rfl rfl Try.func73 (by kernel_rfl) rfl #[.string a0,.int .i64 a1,.int .i64 2] rfl qG ?_;(with_reducible refine(bJ.calls k a0 a1 2 t105 t106 t107 _ A9.out).mono ?_);rintro e w34 ⟨rfl,hb⟩;refine⟨_,rfl,?_⟩;replace BK101:=zA (qX BK101.out hb);replace HB:=zA (zV qB hb);(try clear hb))|((with_reducible refine gate_dst (N:=8) rfl ?_);refine box_event qr (N:=8) qr (cs:= #[.int .i64 0,.int .i64 0]) (t:=130) qg ?_;intro gb108 hg w35 hbox hb;have BK108:=zA (hbox);have GW108:=zA ((qS:w.heap.size≤gb108));have GE108:=zA ((qS:w.heap.size≤gb108));replace HB:=zA (zV qB hb);have NB101_108:=zA ((by rw[hg];exact zLq (qL BK101.out):gb101≠gb108));have NB108_101:=zA ((by rw[hg];exact zMq (qL BK101.out):gb108≠gb101));replace BK101:=zA (qX BK101.out hb);clear hb hbox hg;have hnb36:=NB108_101.out;have hnc36:=NB101_108.out;obtain⟨_,_,_,_⟩:=qc2f BK108.out))
     have n0_:Aside0 (((w35.setCell ⟨gb108,0,none⟩ (.int .i64 t105)).setCell ⟨gb108,1,none⟩ (.int .i64 t106)).heap[gb101]? =some (.cells #[.string (⟨#[]⟩:ByteArray),.int .i64 0] 135 (0,0))):=⟨by(with_reducible repeat(first|refine zY ?_ _|refine zAq ?_|refine zZ ?_ _));refine blk_far ?_ NB101_108.out _;(with_reducible repeat(first|refine zY ?_ _|refine zAq ?_|refine zZ ?_ _));refine blk_far ?_ NB101_108.out _;exact BK101.out⟩
     have n1_:Aside0 (((w35.setCell ⟨gb108,0,none⟩ (.int .i64 t105)).setCell ⟨gb108,1,none⟩ (.int .i64 t106)).heap[gb108]? =some (.cells #[.int .i64 t105,.int .i64 t106] 130 (0,0))):=⟨by(with_reducible repeat(first|refine zY ?_ _|refine zAq ?_|refine zZ ?_ _));apply qP2;exact BK108.out⟩
     have n2_:Aside0 (Below w.heap.size w ((w35.setCell ⟨gb108,0,none⟩ (.int .i64 t105)).setCell ⟨gb108,1,none⟩ (.int .i64 t106))):=⟨qB⟩
     (try clear BK101);(try clear BK108);(try clear HB)
     generalize ((w35.setCell ⟨gb108,0,none⟩ (.int .i64 t105)).setCell ⟨gb108,1,none⟩ (.int .i64 t106))=w38 at n0_ n1_ n2_⊢;have BK101:=n0_;have BK108:=n1_;have HB:=n2_;clear n0_ n1_ n2_;replace BK101:=zA (zAq BK101.out);replace BK108:=zA (zAq BK108.out);replace HB:=zA (zC HB.out);refine start_ (n:=19) (S:=fun w'=>w'.cell? ⟨gb108,0,none⟩=some (.int .i64 t105)∧w'.cell? ⟨gb108,1,none⟩=some (.int .i64 t106)) (ds:=[]) #[O,O,O,O,O,O,O,O,O,O,O,O,O,O,O,O,O,O,O] (by kernel_rfl) rfl rfl ⟨(zF BK108.out 0).trans rfl,(zF BK108.out 1).trans rfl⟩ (fun hHeld=>?_);refine with_tabW cC.tab10 cC.bits10 (fun HT_ HW_=>?_);generalize w38.drew=w39 at BK101 BK108 HB hHeld⊢;refine pure_ (i:=0) (N:=some 45) #[J,O,O,O,O,O,O,O,O,O,O,O,O,O,O,O,O,O,O] rfl rfl (any_of HT_.out (by kernel_rfl)) (fun _ _ _ h=>h) (Or.inl ⟨by rfl,qy⟩) qz ?_;refine pure_ (i:=1) (N:=some 46) #[J,J,O,O,O,O,O,O,O,O,O,O,O,O,O,O,O,O,O] rfl rfl (any_of HT_.out (by kernel_rfl)) (fun _ _ _ h=>h) (Or.inl ⟨by rfl,qy⟩) qz ?_;refine pure_ (i:=3) (N:=some 48) #[J,J,O,J,O,O,O,O,O,O,O,O,O,O,O,O,O,O,O] rfl rfl (any_of HT_.out (by kernel_rfl)) (fun _ _ _ h=>h) (Or.inl ⟨by rfl,qy⟩) qz ?_;refine pure_ (i:=5) (N:=some 50) #[J,J,O,J,O,J,O,O,O,O,O,O,O,O,O,O,O,O,O] rfl rfl (any_of HT_.out (by kernel_rfl)) (fun _ _ _ h=>h) (Or.inl ⟨by rfl,qy⟩) qz ?_;refine pure_ (i:=9) (N:=some 54) #[J,J,O,J,O,J,O,O,O,J,O,O,O,O,O,O,O,O,O] rfl rfl (any_of HT_.out (by kernel_rfl)) (fun _ _ _ h=>h) (Or.inl ⟨by rfl,qy⟩) qz ?_;refine pure_ (i:=11) (N:=some 56) #[J,J,O,J,O,J,O,O,O,J,O,J,O,O,O,O,O,O,O] rfl rfl (any_of HT_.out (by kernel_rfl)) (fun _ _ _ h=>h) (Or.inl ⟨by rfl,qy⟩) qz ?_;refine take_ (i:=2) (N:=some 47) (v:=?_) (a':=?_) #[J,J,J,J,O,J,O,O,O,J,O,J,O,O,O,O,O,O,O] rfl rfl (take_ofW HT_.out HW_.out (by kernel_rfl)) (fun _ _ _ h=>h) (Or.inl ⟨by rfl,?_⟩) hHeld ?_ ?_;rotate_left
     ·rintro w' ⟨s0,s1⟩
      go_simp;with_reducible rfl
     rotate_left
     ·simp only[Act.put,zH,zI,zJ,i64_w,i32_w]
      rfl
     refine take_ (i:=4) (N:=some 49) (v:=?_) (a':=?_) #[J,J,J,J,J,J,O,O,O,J,O,J,O,O,O,O,O,O,O] rfl rfl (take_ofW HT_.out HW_.out (by kernel_rfl)) (fun _ _ _ h=>h) (Or.inl ⟨by rfl,?_⟩) hHeld ?_ ?_;rotate_left
     ·rintro w' ⟨s0,s1⟩
      go_simp;with_reducible rfl
     rotate_left
     ·simp only[Act.put,zH,zI,zJ,i64_w,i32_w]
      rfl
     refine take_ (i:=6) (N:=some 51) (v:=?_) (a':=?_) #[J,J,J,J,J,J,J,O,O,J,O,J,O,O,O,O,O,O,O] rfl rfl (take_ofW HT_.out HW_.out (by kernel_rfl)) (fun _ _ _ h=>h) (Or.inl ⟨by rfl,?_⟩) hHeld ?_ ?_;rotate_left
     ·rintro w' ⟨s0,s1⟩
      go_simp;with_reducible rfl
     rotate_left
     ·simp only[Act.put,zH,zI,zJ,i64_w,i32_w]
      rfl
     refine pure_ (i:=7) (N:=some 52) #[J,J,J,J,J,J,J,J,O,J,O,J,O,O,O,O,O,O,O] rfl rfl (any_of HT_.out (by kernel_rfl)) (fun _ _ _ h=>h) (Or.inl ⟨by rfl,qy⟩) qz ?_;refine pure_ (i:=8) (N:=some 53) #[J,J,J,J,J,J,J,J,J,J,O,J,O,O,O,O,O,O,O] rfl rfl (any_of HT_.out (by kernel_rfl)) (fun _ _ _ h=>h) (Or.inl ⟨by rfl,qy⟩) qz ?_;refine take_ (i:=10) (N:=some 55) (v:=?_) (a':=?_) #[J,J,J,J,J,J,J,J,J,J,J,J,O,O,O,O,O,O,O] rfl rfl (take_ofW HT_.out HW_.out (by kernel_rfl)) (fun _ _ _ h=>h) (Or.inl ⟨by rfl,?_⟩) hHeld ?_ ?_;rotate_left
     ·rintro w' ⟨s0,s1⟩
      go_simp;with_reducible rfl
     rotate_left
     ·simp only[Act.put,zH,zI,zJ,i64_w,i32_w]
      rfl
     refine take_ (i:=12) (N:=some 57) (v:=?_) (a':=?_) #[J,J,J,J,J,J,J,J,J,J,J,J,J,O,O,O,O,O,O] rfl rfl (take_ofW HT_.out HW_.out (by kernel_rfl)) (fun _ _ _ h=>h) (Or.inl ⟨by rfl,?_⟩) hHeld ?_ ?_;rotate_left
     ·rintro w' ⟨s0,s1⟩
      go_simp;with_reducible rfl
     rotate_left
     ·simp only[Act.put,zH,zI,zJ,i64_w,i32_w]
      rfl
     refine pure_ (i:=13) (N:=some 58) #[J,J,J,J,J,J,J,J,J,J,J,J,J,J,O,O,O,O,O] rfl rfl (any_of HT_.out (by kernel_rfl)) (fun _ _ _ h=>h) (Or.inl ⟨by rfl,qy⟩) qz ?_;refine one_ (i:=14) (N:=some 59) #[J,J,J,J,J,J,J,J,J,J,J,J,J,J,J,O,O,O,O] rfl rfl (one_of HT_.out (by kernel_rfl)) (by decide) (fun K hK=>?_);refine goes_ Try.func126 (by kernel_rfl) rfl #[.string (a0.extract (t106:Int).toNat ((wrap64 (t106+t105)):Int).toNat),.int .i64 (wrap64 (t106+t105))] (by rfl) rfl rfl qG ?_;with_reducible refine(cV.calls (a0.extract (t106:Int).toNat ((wrap64 (t106+t105)):Int).toNat) (wrap64 (t106+t105)) t118 t119 t120 _ A32.out).mono ?_
     rintro e w40 ⟨rfl,hb⟩;refine⟨_,rfl,?_⟩;replace BK101:=zA (qX BK101.out hb);replace BK108:=zA (qX BK108.out hb);replace HB:=zA (zV qB hb);(try clear hb);refine hK.out _ _ ⟨(zF BK108.out 0).trans rfl,(zF BK108.out 1).trans rfl⟩ (fun hHeld=>?_);clear hK K;refine norm_ (a':=?_) ?_ ?_;rotate_left
     ·show Act.put _ (some 59) _=_
      simp only[Act.put,zH,zI,zJ,i64_w,i32_w];rfl
     refine pure_ (i:=15) (N:=some 60) #[J,J,J,J,J,J,J,J,J,J,J,J,J,J,J,J,O,O,O] rfl rfl (any_of HT_.out (by kernel_rfl)) (fun _ _ _ h=>h) (Or.inl ⟨by rfl,qy⟩) qz ?_;refine pure_ (i:=16) (N:=some 61) #[J,J,J,J,J,J,J,J,J,J,J,J,J,J,J,J,J,O,O] rfl rfl (any_of HT_.out (by kernel_rfl)) (fun _ _ _ h=>h) (Or.inl ⟨by rfl,qy⟩) qz ?_;refine one_ (i:=17) (N:=none) #[J,J,J,J,J,J,J,J,J,J,J,J,J,J,J,J,J,J,O] rfl rfl (one_of HT_.out (by kernel_rfl)) (by decide) (fun K hK=>?_);have hs41:w40.cell? ⟨gb101,0,none⟩=some (.string (⟨#[]⟩:ByteArray)):=(zF BK101.out 0).trans rfl;have hfs41:=zG BK101.out 0;have hns41_1:=NB108_101.out;have hms41_1:=NB101_108.out;have hs42:w40.cell? ⟨gb101,1,none⟩=some (.int .i64 0):=(zF BK101.out 1).trans rfl;have hfs42:=zG BK101.out 1;have hns42_1:=NB108_101.out;have hms42_1:=NB101_108.out;refine skip_ (w1:=?_) (by rfl) rfl ?_ ?_;rotate_left
     ·go_simp
      rfl
     refine hK.out _ _ ⟨((cell_far (p:=⟨gb101,_,none⟩) NB108_101.out _).trans (((cell_far (p:=⟨gb101,_,none⟩) NB108_101.out _).trans (hHeld.1)))),((cell_far (p:=⟨gb101,_,none⟩) NB108_101.out _).trans (((cell_far (p:=⟨gb101,_,none⟩) NB108_101.out _).trans (hHeld.2))))⟩ (fun hHeld=>?_);clear hK K;refine pure_ (i:=18) (N:=some 7) #[J,J,J,J,J,J,J,J,J,J,J,J,J,J,J,J,J,J,J] rfl rfl (any_of HT_.out (by kernel_rfl)) (fun _ _ _ h=>h) (Or.inl ⟨by rfl,qy⟩) qz ?_;refine done_ (done_of HT_.out (by kernel_rfl)) ?_;try go_wp2
     refine bodyPost_ret (results_ct rfl _ _ gb101 135 #[.string t118,.int .i64 t119] (0,0) _ rfl (qV BK101.out) Try.underlying135 rfl (by kernel_rfl)) rfl ?_;exact⟨qE,qB⟩
    rw[if_neg c31] at H;exact absurd H (by simp)
   rw[if_neg c30] at H;exact absurd H (by simp)
  rw[if_neg c29] at H;exact absurd H (by simp)
 rw[if_neg c10] at H
 have c10b0:(t107==0)=false:=beq_eq_false_iff_ne.mpr c10
 have c10b1:(t107 != 0)=true:=bne_iff_ne.mpr c10
 obtain⟨⟨t109,t110,t111⟩,A43,H⟩:=qD_ H
 (try dsimp only at H)
 simp only[zNq,zOq] at H
 obtain⟨rfl,rfl,rfl⟩:=H
 go_enter Try.func75,Try.ntmps75
 go_wp2_with (first|((with_reducible refine gate_dst (N:=6) rfl ?_);refine box_event qr (N:=6) qr (cs:= #[.string (⟨#[]⟩:ByteArray),.int .i64 0]) (t:=135) qg ?_;intro gb101 hg w44 hbox hb;have BK101:=zA (hbox);have GW101:=zA ((qS:w.heap.size≤gb101));have GE101:=zA ((qS:w.heap.size≤gb101));replace HB:=zA (zV qB hb);clear hb hbox hg)|((with_reducible refine zJq (f:=73) rfl ?_);refine goesL_ (some 18) rfl rfl Try.func73 (by kernel_rfl) rfl #[.string a0,.int .i64 a1,.int .i64 2] rfl qG ?_;(with_reducible refine(bJ.calls k a0 a1 2 t105 t106 t107 _ A9.out).mono ?_);rintro e w45 ⟨rfl,hb⟩;refine⟨_,rfl,?_⟩;replace BK101:=zA (qX BK101.out hb);replace HB:=zA (zV qB hb);(try clear hb))|((with_reducible refine gate_dst (N:=8) rfl ?_);refine box_event qr (N:=8) qr (cs:= #[.int .i64 0,.int .i64 0]) (t:=130) qg ?_;intro gb108 hg w46 hbox hb;have BK108:=zA (hbox);have GW108:=zA ((qS:w.heap.size≤gb108));have GE108:=zA ((qS:w.heap.size≤gb108));replace HB:=zA (zV qB hb);have NB101_108:=zA ((by rw[hg];exact zLq (qL BK101.out):gb101≠gb108));have NB108_101:=zA ((by rw[hg];exact zMq (qL BK101.out):gb108≠gb101));replace BK101:=zA (qX BK101.out hb);clear hb hbox hg;have hnb47:=NB108_101.out;have hnc47:=NB101_108.out;obtain⟨_,_,_,_⟩:=qc2f BK108.out)|((with_reducible refine zJq (f:=125) rfl ?_);refine goesL_ (some 24) rfl rfl Try.func125 (by kernel_rfl) rfl #[.int .i64 t107] rfl qG ?_;(with_reducible refine(cD.calls t107 t109 t110 t111 _ A43.out).mono ?_);rintro e w49 ⟨rfl,hb⟩;refine⟨_,rfl,?_⟩;replace BK101:=zA (qX BK101.out hb);replace BK108:=zA (zX (g:=gb108) (o:= .cells #[.int .i64 t105,.int .i64 t106] 130 (0,0)) (qV BK108.out) hb);replace HB:=zA (zV qB hb);(try clear hb);obtain⟨_,_,_,_⟩:=qc2f BK101.out))
 refine bodyPost_ret (results_ct rfl _ _ gb101 135 #[.string t109,.int .i64 t110] (0,0) _ rfl (qV BK101.out) Try.underlying135 rfl (by kernel_rfl)) rfl ?_
 exact⟨qE,qB⟩
end Go.Proofs.Ytdpcgigjlcpofaa.F
namespace Go.Proofs.Ytdpcgigjlcpofaa.F
open Go.RowKit Go.Proofs.YtdpcgigjlcpofaaX Go.Proofs.YtdpcgigjlcpofaaW.PrintWords Go.Proofs.YtdpcgigjlcpofaaW.PrintLast Go.Proofs.YtdpcgigjlcpofaaW.PrintMore
attribute [local go_sem] max2_int min2_int max_two min_two max_three min_three max_four min_four
attribute [local go_sem high] str_geq str_leq str_gtr
set_option linter.unusedVariables false
set_option linter.unusedSimpArgs false
def bO.f (k:Nat) (s0_0:ByteArray) (s0_1:Int) (s0_2:Option (Int × Int)) (s0_3:Bool) (a1:Int):Option (ByteArray × ByteArray × Int × Option (Int × Int) × Bool):=(bP.f s0_0 s0_1 s0_2 s0_3).bind fun bt101=> (if bt101.1=true then((cC.f k bt101.2.1 bt101.2.2.1 a1).bind fun bt106=> ((bQ.f bt101.2.1 bt101.2.2.1 bt101.2.2.2.1 bt101.2.2.2.2 bt106.2.1 bt106.2.2).bind fun bt110=> (if bt110.1=true then(some (bt106.1,bt110.2.1,bt110.2.2.1,bt110.2.2.2.1,bt110.2.2.2.2))else(some ((⟨#[]⟩:ByteArray),bt110.2.1,bt110.2.2.1,bt110.2.2.2.1,bt110.2.2.2.2)))))else(some ((⟨#[]⟩:ByteArray),bt101.2.1,bt101.2.2.1,bt101.2.2.2.1,bt101.2.2.2.2)))
theorem bO.mono: ∀ a0 a1 a2 a3 a4 k,LeO (bO.f k a0 a1 a2 a3 a4) (bO.f (k+1) a0 a1 a2 a3 a4):=by
  intro a0 a1 a2 a3 a4 k
  unfold bO.f
  repeat' (with_reducible first|exact cC.mono _ _ _ _|exact LeO.refl _|exact LeO.none _|refine LeO.ite ?_ ?_|refine LeO.bind ?_ (fun _=>?_))
def bO.T3:Bool × List (List Nat × List Nat):=(true,[([],[]),([0],[0]),([1],[1]),([2],[2]),([],[]),([4],[4]),([5],[5]),([6],[6]),([],[]),([3,7,8],[3,7,8]),([9],[9]),([10],[10]),([10],[10]),([],[]),([13,11,9,0,1,2,3,4,5,6,7,8,9,10,11,13],[11,13]),([12,14,0,1,2,3,4,5,6,7,8,9,10,11,12,13,14],[12])])
def bO.B3:List Nat:=[0,1,3,7,0,16,48,112,0,511,1023,2047,2047,0,12287,32767]
theorem bO.tab3:rtab .any (opsOf Try.f20 3)=bO.T3:=by kernel_rfl
theorem bO.bits3:waitsOk bO.T3.2 bO.B3=true:=by kernel_rfl
theorem bO.calls (k:Nat) (g:Nat) (s0_0:ByteArray) (s0_1:Int) (s0_2:Option (Int × Int)) (s0_3:Bool) (a1:Int) (r1:ByteArray) (r2:ByteArray) (r3:Int) (r4:Option (Int × Int)) (r5:Bool) (w0 w:World) (hI:IsS31 w0 w g s0_0 s0_1 s0_2 s0_3) (hB:Below w0.heap.size w0 w) (h:bO.f k s0_0 s0_1 s0_2 s0_3 a1=some (r1,r2,r3,r4,r5)):
  Calls Try.prog 20 #[.pointer (some ⟨g,0,none⟩),.int .i64 a1] w fun e w'=>e= .returned (.string r1)∧IsS31 w0 w' g r2 r3 r4 r5∧Below w0.heap.size w0 w'∧KeepBut w w' g none:=by
 have hu135:=Try.underlying135
 have HI0:=zA hI
 have HK:=zA (KeepBut.refl w g none)
 have HL:=zA hB.size
 clear hI
 have HW0:=zA hB.size
 have HB:=zA hB
 clear hB
 have H:((bP.f s0_0 s0_1 s0_2 s0_3).bind fun bt101=> (if bt101.1=true then((cC.f k bt101.2.1 bt101.2.2.1 a1).bind fun bt106=> ((bQ.f bt101.2.1 bt101.2.2.1 bt101.2.2.2.1 bt101.2.2.2.2 bt106.2.1 bt106.2.2).bind fun bt110=> (if bt110.1=true then(some (bt106.1,bt110.2.1,bt110.2.2.1,bt110.2.2.2.1,bt110.2.2.2.2))else(some ((⟨#[]⟩:ByteArray),bt110.2.1,bt110.2.2.1,bt110.2.2.2.1,bt110.2.2.2.2)))))else(some ((⟨#[]⟩:ByteArray),bt101.2.1,bt101.2.2.1,bt101.2.2.2.1,bt101.2.2.2.2))))=some (r1,r2,r3,r4,r5):=h
 clear h
 replace H:=Option.bind_eq_some_iff.mp H
 obtain⟨⟨t101,s0_0,s0_1,s0_2,s0_3⟩,A30,H⟩:=H
 obtain⟨rfl,rfl,rfl,rfl⟩:=bP.same A30
 try dsimp only at H
 have A3:=zA A30
 clear A30
 by_cases c4:t101=true
 ·subst c4
  have H1:((cC.f k s0_0 s0_1 a1).bind fun bt106=> ((bQ.f s0_0 s0_1 s0_2 s0_3 bt106.2.1 bt106.2.2).bind fun bt110=> (if bt110.1=true then(some (bt106.1,bt110.2.1,bt110.2.2.1,bt110.2.2.2.1,bt110.2.2.2.2))else(some ((⟨#[]⟩:ByteArray),bt110.2.1,bt110.2.2.1,bt110.2.2.2.1,bt110.2.2.2.2)))))=some (r1,r2,r3,r4,r5):=by first|(rw[if_pos rfl] at H;exact H)|rfl
  clear H;have H:=H1;clear H1;obtain⟨⟨t106,t107,t108⟩,A5,H⟩:=qD_ H;(try dsimp only at H);obtain⟨⟨t110,t111,t112,t113,t114⟩,A6,H⟩:=qD_ H;(try dsimp only at H);by_cases c7:t110=true
  ·subst c7
   have H1:(some (t106,t111,t112,t113,t114))=some (r1,r2,r3,r4,r5):=by first|(rw[if_pos rfl] at H;exact H)|rfl
   clear H;have H:=H1;clear H1;simp only[zNq,zOq] at H;obtain⟨rfl,rfl,rfl,rfl,rfl⟩:=H;go_enter Try.func20,Try.ntmps20;try go_wp2_with (first|((with_reducible refine zJq (f:=72) rfl ?_);refine goesL_ (some 8) rfl rfl Try.func72 (by kernel_rfl) rfl #[.pointer (some ⟨g,0,none⟩)] rfl qG ?_;(with_reducible refine(bP.calls g s0_0 s0_1 s0_2 s0_3 true s0_0 s0_1 s0_2 s0_3 w0 _ ?side1 ?side2 A3.out).mono ?_);(case side1=>repeat(first|(with_reducible first|exact HI0.out|apply IsS31.alloc|apply IsS31.drewN|apply IsS31.drew)|exact HI0.out));(case side2=>repeat(first|(with_reducible first|exact HB.out|apply zD|apply zB|apply zC|refine zE ?_ (IsS31.ge HI0.out))|exact HB.out));rintro e w8 ⟨rfl,hi,hb,hk⟩;refine⟨_,rfl,?_⟩;replace HK:=zA (zBq (qJ HK.out) hk (.inl rfl));replace HB:=zA (hb);replace HI0:=zA (hi);(try clear hb);(try clear hk);(try clear hi);(try simp only[errW_none,errW_some]);have BKp0:Aside0 (w8.heap[g]? =some (.cells #[.string s0_0,.int .i64 s0_1,errW s0_2,.bool s0_3] 31 (0,0))):=⟨by obtain⟨hb_,_⟩:=HI0.out;exact hb_⟩))
   replace BKp0:=zA (zAq BKp0.out);replace HI0:=zA (IsS31.drew HI0.out);replace HK:=zA (zM HK.out);replace HB:=zA (zC HB.out);refine start_ (n:=16) (S:=fun w'=>w'.cell? ⟨g,0,none⟩=some (.string s0_0)∧w'.cell? ⟨g,1,none⟩=some (.int .i64 s0_1)∧w'.cell? ⟨g,2,none⟩=some (errW s0_2)∧w'.cell? ⟨g,3,none⟩=some (.bool s0_3)) (ds:=[]) #[O,O,O,O,O,O,O,O,O,O,O,O,O,O,O,O] (by kernel_rfl) rfl rfl ⟨(zF BKp0.out 0).trans rfl,(zF BKp0.out 1).trans rfl,(zF BKp0.out 2).trans rfl,(zF BKp0.out 3).trans rfl⟩ (fun hHeld=>?_);refine with_tabW bO.tab3 bO.bits3 (fun HT_ HW_=>?_);generalize w8.drew=w9 at BKp0 HI0 HK HB hHeld⊢;refine pure_ (i:=0) (N:=some 11) #[J,O,O,O,O,O,O,O,O,O,O,O,O,O,O,O] rfl rfl (any_of HT_.out (by kernel_rfl)) (fun _ _ _ h=>h) (Or.inl ⟨by rfl,qy⟩) qz ?_;refine pure_ (i:=1) (N:=some 12) #[J,J,O,O,O,O,O,O,O,O,O,O,O,O,O,O] rfl rfl (any_of HT_.out (by kernel_rfl)) (fun _ _ _ h=>h) (Or.inl ⟨by rfl,qy⟩) qz ?_;refine pure_ (i:=2) (N:=some 13) #[J,J,J,O,O,O,O,O,O,O,O,O,O,O,O,O] rfl rfl (any_of HT_.out (by kernel_rfl)) (fun _ _ _ h=>h) (Or.inl ⟨by rfl,qy⟩) qz ?_;refine pure_ (i:=4) (N:=some 15) #[J,J,J,O,J,O,O,O,O,O,O,O,O,O,O,O] rfl rfl (any_of HT_.out (by kernel_rfl)) (fun _ _ _ h=>h) (Or.inl ⟨by rfl,qy⟩) qz ?_;refine pure_ (i:=5) (N:=some 16) #[J,J,J,O,J,J,O,O,O,O,O,O,O,O,O,O] rfl rfl (any_of HT_.out (by kernel_rfl)) (fun _ _ _ h=>h) (Or.inl ⟨by rfl,qy⟩) qz ?_;refine pure_ (i:=6) (N:=some 17) #[J,J,J,O,J,J,J,O,O,O,O,O,O,O,O,O] rfl rfl (any_of HT_.out (by kernel_rfl)) (fun _ _ _ h=>h) (Or.inl ⟨by rfl,qy⟩) qz ?_;refine pure_ (i:=8) (N:=some 19) #[J,J,J,O,J,J,J,O,J,O,O,O,O,O,O,O] rfl rfl (any_of HT_.out (by kernel_rfl)) (fun _ _ _ h=>h) (Or.inl ⟨by rfl,qy⟩) qz ?_;refine take_ (i:=3) (N:=some 14) (v:=?_) (a':=?_) #[J,J,J,J,J,J,J,O,J,O,O,O,O,O,O,O] rfl rfl (take_ofW HT_.out HW_.out (by kernel_rfl)) (fun _ _ _ h=>h) (Or.inl ⟨by rfl,?_⟩) hHeld ?_ ?_;rotate_left
   ·rintro w' ⟨s0,s1,s2,s3⟩
    go_simp;with_reducible rfl
   rotate_left
   ·simp only[Act.put,zH,zI,zJ,i64_w,i32_w]
    rfl
   refine take_ (i:=7) (N:=some 18) (v:=?_) (a':=?_) #[J,J,J,J,J,J,J,J,J,O,O,O,O,O,O,O] rfl rfl (take_ofW HT_.out HW_.out (by kernel_rfl)) (fun _ _ _ h=>h) (Or.inl ⟨by rfl,?_⟩) hHeld ?_ ?_;rotate_left
   ·rintro w' ⟨s0,s1,s2,s3⟩
    go_simp;with_reducible rfl
   rotate_left
   ·simp only[Act.put,zH,zI,zJ,i64_w,i32_w]
    rfl
   refine join_ (σ:=Nat) 2 #[J,J,J,J,J,J,J,J,J,J,J,J,J,J,O,O] (fun s_=> [(20,.tuple #[.agg #[.string t106,.int .i64 t107],.int .i64 t108]),(5,.pointer (some ⟨s_,0,none⟩)),(10,.tuple #[.agg #[.string t106,.int .i64 t107],.int .i64 t108]),(21,.agg #[.string t106,.int .i64 t107]),(22,.int .i64 t108)]) (fun s_ w'=> (w'.cell? ⟨g,0,none⟩=some (.string s0_0)∧w'.cell? ⟨g,1,none⟩=some (.int .i64 s0_1)∧w'.cell? ⟨g,2,none⟩=some (errW s0_2)∧w'.cell? ⟨g,3,none⟩=some (.bool s0_3))∧(w'.heap[s_]? =some (.cells #[.string (⟨#[]⟩:ByteArray),.int .i64 0] 135 (0,0)))∧(w'.heap[g]? =some (.cells #[.string s0_0,.int .i64 s0_1,errW s0_2,.bool s0_3] 31 (0,0)))∧(w.heap.size≤s_)∧(w0.heap.size≤s_)∧(g≠s_)∧(s_≠g)∧(IsS31 w0 w' g s0_0 s0_1 s0_2 s0_3)∧(KeepBut w w' g none)∧(Below w0.heap.size w0 w')) ?_ ?_;rotate_left
   ·intro hCont
    refine two_ (i:=9) (j:=13) (Ni:=some 20) (Nj:=some 5) #[J,J,J,J,J,J,J,J,J,J,O,O,O,O,O,O] #[J,J,J,J,J,J,J,J,J,O,O,O,O,J,O,O] rfl rfl rfl rfl (two_of HT_.out (by kernel_rfl)) (by decide) (by decide) (fun K hK=>?_) (fun K hK=>?_)
    ·skip
     refine goes_ Try.func75 (by kernel_rfl) rfl #[.string s0_0,.int .i64 s0_1,.int .i64 a1] (by rfl) rfl rfl qG ?_;with_reducible refine(cC.calls k s0_0 s0_1 a1 t106 t107 t108 _ A5.out).mono ?_
     rintro e w10 ⟨rfl,hb⟩;refine⟨_,rfl,?_⟩;replace BKp0:=zA (qX BKp0.out hb);replace HK:=zA (zBq (qJ HK.out) (KeepBut.of_below hb g none) (.inl rfl));replace HB:=zA (zV (qH HI0.out HB.out) hb);replace HI0:=zA (IsS31.below (by repeat(first|(with_reducible first|exact HI0.out|apply IsS31.alloc|apply IsS31.drewN|apply IsS31.drew|refine IsS31.far ?_ NB0_0.out _)|exact HI0.out)) hb);(try clear hb);refine hK.out _ _ ⟨(zF BKp0.out 0).trans rfl,(zF BKp0.out 1).trans rfl,(zF BKp0.out 2).trans rfl,(zF BKp0.out 3).trans rfl⟩ (fun hHeld=>?_);clear hK K;refine norm_ (a':=?_) ?_ ?_;rotate_left
     ·show Act.put _ (some 20) _=_
      simp only[Act.put,zH,zI,zJ,i64_w,i32_w];rfl
     refine pure_ (i:=10) (N:=some 10) #[J,J,J,J,J,J,J,J,J,J,J,O,O,O,O,O] rfl rfl (any_of HT_.out (by kernel_rfl)) (fun _ _ _ h=>h) (Or.inl ⟨by rfl,qy⟩) qz ?_;refine pure_ (i:=11) (N:=some 21) #[J,J,J,J,J,J,J,J,J,J,J,J,O,O,O,O] rfl rfl (any_of HT_.out (by kernel_rfl)) (fun _ _ _ h=>h) (Or.inl ⟨by rfl,qy⟩) qz ?_;refine pure_ (i:=12) (N:=some 22) #[J,J,J,J,J,J,J,J,J,J,J,J,J,O,O,O] rfl rfl (any_of HT_.out (by kernel_rfl)) (fun _ _ _ h=>h) (Or.inl ⟨by rfl,qy⟩) qz ?_;refine one_ (i:=13) (N:=some 5) #[J,J,J,J,J,J,J,J,J,J,J,J,J,J,O,O] rfl rfl (one_of HT_.out (by kernel_rfl)) (by decide) (fun K hK=>?_);refine box_step ?hg (N:=5) ?hd (cs:= #[.string (⟨#[]⟩:ByteArray),.int .i64 0]) (t:=135) ?hr ?_;(case hd=>rfl);(case hg=>rfl);(case hr=>first|(go_simp;done)|(go_simp;rfl));intro gb109 hg w11 hbox hb;have n0_:=zA (IsS31.below (by repeat(first|(with_reducible first|exact HI0.out|apply IsS31.alloc|apply IsS31.drewN|apply IsS31.drew|refine IsS31.far ?_ NB0_0.out _)|exact HI0.out)) hb);have n1_:=zA (qX BKp0.out hb);have n2_:=zA (zBq (qJ HK.out) (KeepBut.of_below hb g none) (.inl rfl));have n3_:=zA (zV (qH HI0.out HB.out) hb);have n4_:=zA (hbox);have n5_:=zA ((by rw[hg];exact(keep_size (w:=w) (g:=g) (row:=none) (qJ HK.out)):w.heap.size≤gb109));have n6_:=zA ((Nat.le_trans HW0.out (by rw[hg];exact(keep_size (w:=w) (g:=g) (row:=none) (qJ HK.out)):w.heap.size≤gb109):w0.heap.size≤gb109));have n7_:=zA ((by rw[hg];exact zLq (qL BKp0.out):g≠gb109));have n8_:=zA ((by rw[hg];exact zMq (qL BKp0.out):gb109≠g));have n9_:=zA ((by rw[hg];exact zLq (IsS31.lt (show IsS31 w0 _ g s0_0 s0_1 s0_2 s0_3 from by repeat(first|(with_reducible first|exact HI0.out|apply IsS31.alloc|apply IsS31.drewN|apply IsS31.drew|refine IsS31.far ?_ NB0_0.out _)|exact HI0.out))):g≠gb109));have n10_:=zA ((by rw[hg];exact zMq (IsS31.lt (show IsS31 w0 _ g s0_0 s0_1 s0_2 s0_3 from by repeat(first|(with_reducible first|exact HI0.out|apply IsS31.alloc|apply IsS31.drewN|apply IsS31.drew|refine IsS31.far ?_ NB0_0.out _)|exact HI0.out))):gb109≠g));clear HI0;clear BKp0;clear HK;clear HB;have HI0:=n0_;have BKp0:=n1_;have HK:=n2_;have HB:=n3_;have BK109:=n4_;have GW109:=n5_;have GE109:=n6_;have NB0_109:=n7_;have NB109_0:=n8_;have NB0_109:=n9_;have NB109_0:=n10_;clear n0_ n1_ n2_ n3_ n4_ n5_ n6_ n7_ n8_ n9_ n10_;clear hb hbox hg;refine hK.out _ _ ⟨(zF BKp0.out 0).trans rfl,(zF BKp0.out 1).trans rfl,(zF BKp0.out 2).trans rfl,(zF BKp0.out 3).trans rfl⟩ (fun hHeld=>?_)
     clear hK K;refine norm_ (a':=?_) ?_ ?_;rotate_left
     ·show Act.put _ (some 5) _=_
      simp only[Act.put,zH,zI,zJ,i64_w,i32_w];rfl
     exact norm_ (by simp only[putAll,Act.put,zH,zI,zJ]) (hCont (gb109) _ ⟨hHeld,(qW BK109.out),(qW BKp0.out),GW109.out,GE109.out,NB0_109.out,NB109_0.out,(by repeat(first|(with_reducible first|exact HI0.out|apply IsS31.alloc|apply IsS31.drewN|apply IsS31.drew|refine IsS31.far ?_ NB0_0.out _|refine IsS31.far ?_ NB0_109.out _)|exact HI0.out)),(qJ HK.out),(qH HI0.out HB.out)⟩)
    skip;refine box_step ?hg (N:=5) ?hd (cs:= #[.string (⟨#[]⟩:ByteArray),.int .i64 0]) (t:=135) ?hr ?_;(case hd=>rfl);(case hg=>rfl);(case hr=>first|(go_simp;done)|(go_simp;rfl));intro gb109 hg w10 hbox hb;have n0_:=zA (IsS31.below (by repeat(first|(with_reducible first|exact HI0.out|apply IsS31.alloc|apply IsS31.drewN|apply IsS31.drew|refine IsS31.far ?_ NB0_0.out _)|exact HI0.out)) hb);have n1_:=zA (qX BKp0.out hb);have n2_:=zA (zBq (qJ HK.out) (KeepBut.of_below hb g none) (.inl rfl));have n3_:=zA (zV (qH HI0.out HB.out) hb);have n4_:=zA (hbox);have n5_:=zA ((by rw[hg];exact(keep_size (w:=w) (g:=g) (row:=none) (qJ HK.out)):w.heap.size≤gb109));have n6_:=zA ((Nat.le_trans HW0.out (by rw[hg];exact(keep_size (w:=w) (g:=g) (row:=none) (qJ HK.out)):w.heap.size≤gb109):w0.heap.size≤gb109));have n7_:=zA ((by rw[hg];exact zLq (qL BKp0.out):g≠gb109));have n8_:=zA ((by rw[hg];exact zMq (qL BKp0.out):gb109≠g));have n9_:=zA ((by rw[hg];exact zLq (IsS31.lt (show IsS31 w0 _ g s0_0 s0_1 s0_2 s0_3 from by repeat(first|(with_reducible first|exact HI0.out|apply IsS31.alloc|apply IsS31.drewN|apply IsS31.drew|refine IsS31.far ?_ NB0_0.out _)|exact HI0.out))):g≠gb109));have n10_:=zA ((by rw[hg];exact zMq (IsS31.lt (show IsS31 w0 _ g s0_0 s0_1 s0_2 s0_3 from by repeat(first|(with_reducible first|exact HI0.out|apply IsS31.alloc|apply IsS31.drewN|apply IsS31.drew|refine IsS31.far ?_ NB0_0.out _)|exact HI0.out))):gb109≠g));clear HI0;clear BKp0;clear HK;clear HB;have HI0:=n0_;have BKp0:=n1_;have HK:=n2_;have HB:=n3_;have BK109:=n4_;have GW109:=n5_;have GE109:=n6_;have NB0_109:=n7_;have NB109_0:=n8_;have NB0_109:=n9_;have NB109_0:=n10_;clear n0_ n1_ n2_ n3_ n4_ n5_ n6_ n7_ n8_ n9_ n10_;clear hb hbox hg;refine hK.out _ _ ⟨(zF BKp0.out 0).trans rfl,(zF BKp0.out 1).trans rfl,(zF BKp0.out 2).trans rfl,(zF BKp0.out 3).trans rfl⟩ (fun hHeld=>?_);clear hK K;refine norm_ (a':=?_) ?_ ?_;rotate_left
    ·show Act.put _ (some 5) _=_
     simp only[Act.put,zH,zI,zJ,i64_w,i32_w];rfl
    refine one_ (i:=9) (N:=some 20) #[J,J,J,J,J,J,J,J,J,J,O,O,O,J,O,O] rfl rfl (one_of HT_.out (by kernel_rfl)) (by decide) (fun K hK=>?_);refine goes_ Try.func75 (by kernel_rfl) rfl #[.string s0_0,.int .i64 s0_1,.int .i64 a1] (by rfl) rfl rfl qG ?_;with_reducible refine(cC.calls k s0_0 s0_1 a1 t106 t107 t108 _ A5.out).mono ?_
    rintro e w11 ⟨rfl,hb⟩;refine⟨_,rfl,?_⟩;replace BKp0:=zA (qX BKp0.out hb);replace BK109:=zA (qX BK109.out hb);replace HK:=zA (zBq (qJ HK.out) (KeepBut.of_below hb g none) (.inl rfl));replace HB:=zA (zV (qH HI0.out HB.out) hb);replace HI0:=zA (IsS31.below (by repeat(first|(with_reducible first|exact HI0.out|apply IsS31.alloc|apply IsS31.drewN|apply IsS31.drew|refine IsS31.far ?_ NB0_0.out _|refine IsS31.far ?_ NB0_109.out _)|exact HI0.out)) hb);(try clear hb);refine hK.out _ _ ⟨(zF BKp0.out 0).trans rfl,(zF BKp0.out 1).trans rfl,(zF BKp0.out 2).trans rfl,(zF BKp0.out 3).trans rfl⟩ (fun hHeld=>?_);clear hK K;refine norm_ (a':=?_) ?_ ?_;rotate_left
    ·show Act.put _ (some 20) _=_
     simp only[Act.put,zH,zI,zJ,i64_w,i32_w];rfl
    refine pure_ (i:=10) (N:=some 10) #[J,J,J,J,J,J,J,J,J,J,J,O,O,J,O,O] rfl rfl (any_of HT_.out (by kernel_rfl)) (fun _ _ _ h=>h) (Or.inl ⟨by rfl,qy⟩) qz ?_;refine pure_ (i:=11) (N:=some 21) #[J,J,J,J,J,J,J,J,J,J,J,J,O,J,O,O] rfl rfl (any_of HT_.out (by kernel_rfl)) (fun _ _ _ h=>h) (Or.inl ⟨by rfl,qy⟩) qz ?_;refine pure_ (i:=12) (N:=some 22) #[J,J,J,J,J,J,J,J,J,J,J,J,J,J,O,O] rfl rfl (any_of HT_.out (by kernel_rfl)) (fun _ _ _ h=>h) (Or.inl ⟨by rfl,qy⟩) qz ?_;exact norm_ (by simp only[putAll,Act.put,zH,zI,zJ]) (hCont (gb109) _ ⟨hHeld,(qW BK109.out),(qW BKp0.out),GW109.out,GE109.out,NB0_109.out,NB109_0.out,(by repeat(first|(with_reducible first|exact HI0.out|apply IsS31.alloc|apply IsS31.drewN|apply IsS31.drew|refine IsS31.far ?_ NB0_0.out _|refine IsS31.far ?_ NB0_109.out _)|exact HI0.out)),(qJ HK.out),(qH HI0.out HB.out)⟩)
   rintro gb109 w12 ⟨hS_,h0_,h1_,h2_,h3_,h4_,h5_,h6_,h7_,h8_⟩;have n0_:Aside0 (w12.heap[gb109]? =some (.cells #[.string (⟨#[]⟩:ByteArray),.int .i64 0] 135 (0,0))):=⟨h0_⟩
   have n1_:Aside0 (w12.heap[g]? =some (.cells #[.string s0_0,.int .i64 s0_1,errW s0_2,.bool s0_3] 31 (0,0))):=⟨h1_⟩
   have n2_:Aside0 (w.heap.size≤gb109):=⟨h2_⟩
   have n3_:Aside0 (w0.heap.size≤gb109):=⟨h3_⟩
   have n4_:Aside0 (g≠gb109):=⟨h4_⟩
   have n5_:Aside0 (gb109≠g):=⟨h5_⟩
   have n6_:Aside0 (IsS31 w0 w12 g s0_0 s0_1 s0_2 s0_3):=⟨h6_⟩
   have n7_:Aside0 (KeepBut w w12 g none):=⟨h7_⟩
   have n8_:Aside0 (Below w0.heap.size w0 w12):=⟨h8_⟩
   clear BKp0;clear HI0;clear HK;clear HB;clear h0_ h1_ h2_ h3_ h4_ h5_ h6_ h7_ h8_;have BK109:=n0_;have BKp0:=n1_;have GW109:=n2_;have GE109:=n3_;have NB0_109:=n4_;have NB109_0:=n5_;have HI0:=n6_;have HK:=n7_;have HB:=n8_;clear n0_ n1_ n2_ n3_ n4_ n5_ n6_ n7_ n8_;have hHeld:w12.cell? ⟨g,0,none⟩=some (.string s0_0)∧w12.cell? ⟨g,1,none⟩=some (.int .i64 s0_1)∧w12.cell? ⟨g,2,none⟩=some (errW s0_2)∧w12.cell? ⟨g,3,none⟩=some (.bool s0_3):=hS_;refine norm_ (a':=?_) ?_ ?_;rotate_left
   ·simp only[putAll,Act.put,zH,zI,zJ]
    rfl
   refine one_ (i:=14) (N:=none) #[J,J,J,J,J,J,J,J,J,J,J,J,J,J,J,O] rfl rfl (one_of HT_.out (by kernel_rfl)) (by decide) (fun K hK=>?_);have hs13:w12.cell? ⟨gb109,0,none⟩=some (.string (⟨#[]⟩:ByteArray)):=(zF BK109.out 0).trans rfl;have hfs13:=zG BK109.out 0;have hns13_0:=NB0_109.out;have hms13_0:=NB109_0.out;have hs14:w12.cell? ⟨gb109,1,none⟩=some (.int .i64 0):=(zF BK109.out 1).trans rfl;have hfs14:=zG BK109.out 1;have hns14_0:=NB0_109.out;have hms14_0:=NB109_0.out;refine skip_ (w1:=?_) (by rfl) rfl ?_ ?_;rotate_left
   ·go_simp
    rfl
   refine hK.out _ _ ⟨((cell_far (p:=⟨gb109,_,none⟩) NB0_109.out _).trans (((cell_far (p:=⟨gb109,_,none⟩) NB0_109.out _).trans (hHeld.1)))),((cell_far (p:=⟨gb109,_,none⟩) NB0_109.out _).trans (((cell_far (p:=⟨gb109,_,none⟩) NB0_109.out _).trans (hHeld.2.1)))),((cell_far (p:=⟨gb109,_,none⟩) NB0_109.out _).trans (((cell_far (p:=⟨gb109,_,none⟩) NB0_109.out _).trans (hHeld.2.2.1)))),((cell_far (p:=⟨gb109,_,none⟩) NB0_109.out _).trans (((cell_far (p:=⟨gb109,_,none⟩) NB0_109.out _).trans (hHeld.2.2.2))))⟩ (fun hHeld=>?_);clear hK K;refine pure_ (i:=15) (N:=some 6) #[J,J,J,J,J,J,J,J,J,J,J,J,J,J,J,J] rfl rfl (any_of HT_.out (by kernel_rfl)) (fun _ _ _ h=>h) (Or.inl ⟨by rfl,qy⟩) qz ?_;refine done_ (done_of HT_.out (by kernel_rfl)) ?_;clear BKp0;have hnb15:=NB109_0.out;have hnc15:=NB0_109.out;obtain⟨_,_,_,_⟩:=qc2f BK109.out;try go_wp2_with (first|((with_reducible refine zJq (f:=74) rfl ?_);refine goesL_ (some 27) rfl rfl Try.func74 (by kernel_rfl) rfl #[.pointer (some ⟨g,0,none⟩),.int .i64 t107,.int .i64 t108] rfl qG ?_;(with_reducible refine(bQ.calls g s0_0 s0_1 s0_2 s0_3 t107 t108 true t111 t112 t113 t114 w0 _ ?side1 ?side2 A6.out).mono ?_);(case side1=>repeat(first|(with_reducible first|exact HI0.out|apply IsS31.alloc|apply IsS31.drewN|apply IsS31.drew|refine IsS31.far ?_ NB0_109.out _)|exact HI0.out));(case side2=>repeat(first|(with_reducible first|exact HB.out|apply zD|apply zB|apply zC|refine zE ?_ (IsS31.ge HI0.out)|refine zE ?_ GE109.out)|exact HB.out));rintro e w17 ⟨rfl,hi,hb,hk⟩;refine⟨_,rfl,?_⟩;replace BK109:=zA (KeepBut.blk hk (g':=gb109) (o:= .cells #[.string t106,.int .i64 t107] 135 (0,0)) (qV BK109.out) NB109_0.out (by simp));replace HK:=zA (zBq (qJ HK.out) hk (.inl rfl));replace HB:=zA (hb);replace HI0:=zA (hi);(try clear hb);(try clear hk);(try clear hi);(try simp only[errW_none,errW_some]);obtain⟨_,_,_,_⟩:=qc2f BK109.out))
   go_ret;exact⟨qE,by repeat(first|(with_reducible first|exact HI0.out|apply IsS31.alloc|apply IsS31.drewN|apply IsS31.drew|refine IsS31.far ?_ NB0_109.out _)|exact HI0.out),qH HI0.out HB.out,qJ HK.out⟩
  replace c7:=Bool.eq_false_iff.mpr c7;subst c7;have H1:(some ((⟨#[]⟩:ByteArray),t111,t112,t113,t114))=some (r1,r2,r3,r4,r5):=by first|(rw[if_neg (show ¬ (false=true) by decide)] at H;exact H)|rfl
  clear H;have H:=H1;clear H1;simp only[zNq,zOq] at H;obtain⟨rfl,rfl,rfl,rfl,rfl⟩:=H;go_enter Try.func20,Try.ntmps20;try go_wp2_with (first|((with_reducible refine zJq (f:=72) rfl ?_);refine goesL_ (some 8) rfl rfl Try.func72 (by kernel_rfl) rfl #[.pointer (some ⟨g,0,none⟩)] rfl qG ?_;(with_reducible refine(bP.calls g s0_0 s0_1 s0_2 s0_3 true s0_0 s0_1 s0_2 s0_3 w0 _ ?side1 ?side2 A3.out).mono ?_);(case side1=>repeat(first|(with_reducible first|exact HI0.out|apply IsS31.alloc|apply IsS31.drewN|apply IsS31.drew)|exact HI0.out));(case side2=>repeat(first|(with_reducible first|exact HB.out|apply zD|apply zB|apply zC|refine zE ?_ (IsS31.ge HI0.out))|exact HB.out));rintro e w19 ⟨rfl,hi,hb,hk⟩;refine⟨_,rfl,?_⟩;replace HK:=zA (zBq (qJ HK.out) hk (.inl rfl));replace HB:=zA (hb);replace HI0:=zA (hi);(try clear hb);(try clear hk);(try clear hi);(try simp only[errW_none,errW_some]);have BKp0:Aside0 (w19.heap[g]? =some (.cells #[.string s0_0,.int .i64 s0_1,errW s0_2,.bool s0_3] 31 (0,0))):=⟨by obtain⟨hb_,_⟩:=HI0.out;exact hb_⟩))
  replace BKp0:=zA (zAq BKp0.out);replace HI0:=zA (IsS31.drew HI0.out);replace HK:=zA (zM HK.out);replace HB:=zA (zC HB.out);refine start_ (n:=16) (S:=fun w'=>w'.cell? ⟨g,0,none⟩=some (.string s0_0)∧w'.cell? ⟨g,1,none⟩=some (.int .i64 s0_1)∧w'.cell? ⟨g,2,none⟩=some (errW s0_2)∧w'.cell? ⟨g,3,none⟩=some (.bool s0_3)) (ds:=[]) #[O,O,O,O,O,O,O,O,O,O,O,O,O,O,O,O] (by kernel_rfl) rfl rfl ⟨(zF BKp0.out 0).trans rfl,(zF BKp0.out 1).trans rfl,(zF BKp0.out 2).trans rfl,(zF BKp0.out 3).trans rfl⟩ (fun hHeld=>?_);refine with_tabW bO.tab3 bO.bits3 (fun HT_ HW_=>?_);generalize w19.drew=w20 at BKp0 HI0 HK HB hHeld⊢;refine pure_ (i:=0) (N:=some 11) #[J,O,O,O,O,O,O,O,O,O,O,O,O,O,O,O] rfl rfl (any_of HT_.out (by kernel_rfl)) (fun _ _ _ h=>h) (Or.inl ⟨by rfl,qy⟩) qz ?_;refine pure_ (i:=1) (N:=some 12) #[J,J,O,O,O,O,O,O,O,O,O,O,O,O,O,O] rfl rfl (any_of HT_.out (by kernel_rfl)) (fun _ _ _ h=>h) (Or.inl ⟨by rfl,qy⟩) qz ?_;refine pure_ (i:=2) (N:=some 13) #[J,J,J,O,O,O,O,O,O,O,O,O,O,O,O,O] rfl rfl (any_of HT_.out (by kernel_rfl)) (fun _ _ _ h=>h) (Or.inl ⟨by rfl,qy⟩) qz ?_;refine pure_ (i:=4) (N:=some 15) #[J,J,J,O,J,O,O,O,O,O,O,O,O,O,O,O] rfl rfl (any_of HT_.out (by kernel_rfl)) (fun _ _ _ h=>h) (Or.inl ⟨by rfl,qy⟩) qz ?_;refine pure_ (i:=5) (N:=some 16) #[J,J,J,O,J,J,O,O,O,O,O,O,O,O,O,O] rfl rfl (any_of HT_.out (by kernel_rfl)) (fun _ _ _ h=>h) (Or.inl ⟨by rfl,qy⟩) qz ?_;refine pure_ (i:=6) (N:=some 17) #[J,J,J,O,J,J,J,O,O,O,O,O,O,O,O,O] rfl rfl (any_of HT_.out (by kernel_rfl)) (fun _ _ _ h=>h) (Or.inl ⟨by rfl,qy⟩) qz ?_;refine pure_ (i:=8) (N:=some 19) #[J,J,J,O,J,J,J,O,J,O,O,O,O,O,O,O] rfl rfl (any_of HT_.out (by kernel_rfl)) (fun _ _ _ h=>h) (Or.inl ⟨by rfl,qy⟩) qz ?_;refine take_ (i:=3) (N:=some 14) (v:=?_) (a':=?_) #[J,J,J,J,J,J,J,O,J,O,O,O,O,O,O,O] rfl rfl (take_ofW HT_.out HW_.out (by kernel_rfl)) (fun _ _ _ h=>h) (Or.inl ⟨by rfl,?_⟩) hHeld ?_ ?_;rotate_left
  ·rintro w' ⟨s0,s1,s2,s3⟩
   go_simp;with_reducible rfl
  rotate_left
  ·simp only[Act.put,zH,zI,zJ,i64_w,i32_w]
   rfl
  refine take_ (i:=7) (N:=some 18) (v:=?_) (a':=?_) #[J,J,J,J,J,J,J,J,J,O,O,O,O,O,O,O] rfl rfl (take_ofW HT_.out HW_.out (by kernel_rfl)) (fun _ _ _ h=>h) (Or.inl ⟨by rfl,?_⟩) hHeld ?_ ?_;rotate_left
  ·rintro w' ⟨s0,s1,s2,s3⟩
   go_simp;with_reducible rfl
  rotate_left
  ·simp only[Act.put,zH,zI,zJ,i64_w,i32_w]
   rfl
  refine join_ (σ:=Nat) 2 #[J,J,J,J,J,J,J,J,J,J,J,J,J,J,O,O] (fun s_=> [(20,.tuple #[.agg #[.string t106,.int .i64 t107],.int .i64 t108]),(5,.pointer (some ⟨s_,0,none⟩)),(10,.tuple #[.agg #[.string t106,.int .i64 t107],.int .i64 t108]),(21,.agg #[.string t106,.int .i64 t107]),(22,.int .i64 t108)]) (fun s_ w'=> (w'.cell? ⟨g,0,none⟩=some (.string s0_0)∧w'.cell? ⟨g,1,none⟩=some (.int .i64 s0_1)∧w'.cell? ⟨g,2,none⟩=some (errW s0_2)∧w'.cell? ⟨g,3,none⟩=some (.bool s0_3))∧(w'.heap[s_]? =some (.cells #[.string (⟨#[]⟩:ByteArray),.int .i64 0] 135 (0,0)))∧(w'.heap[g]? =some (.cells #[.string s0_0,.int .i64 s0_1,errW s0_2,.bool s0_3] 31 (0,0)))∧(w.heap.size≤s_)∧(w0.heap.size≤s_)∧(g≠s_)∧(s_≠g)∧(IsS31 w0 w' g s0_0 s0_1 s0_2 s0_3)∧(KeepBut w w' g none)∧(Below w0.heap.size w0 w')) ?_ ?_;rotate_left
  ·intro hCont
   refine two_ (i:=9) (j:=13) (Ni:=some 20) (Nj:=some 5) #[J,J,J,J,J,J,J,J,J,J,O,O,O,O,O,O] #[J,J,J,J,J,J,J,J,J,O,O,O,O,J,O,O] rfl rfl rfl rfl (two_of HT_.out (by kernel_rfl)) (by decide) (by decide) (fun K hK=>?_) (fun K hK=>?_)
   ·skip
    refine goes_ Try.func75 (by kernel_rfl) rfl #[.string s0_0,.int .i64 s0_1,.int .i64 a1] (by rfl) rfl rfl qG ?_;with_reducible refine(cC.calls k s0_0 s0_1 a1 t106 t107 t108 _ A5.out).mono ?_
    rintro e w21 ⟨rfl,hb⟩;refine⟨_,rfl,?_⟩;replace BKp0:=zA (qX BKp0.out hb);replace HK:=zA (zBq (qJ HK.out) (KeepBut.of_below hb g none) (.inl rfl));replace HB:=zA (zV (qH HI0.out HB.out) hb);replace HI0:=zA (IsS31.below (by repeat(first|(with_reducible first|exact HI0.out|apply IsS31.alloc|apply IsS31.drewN|apply IsS31.drew|refine IsS31.far ?_ NB0_0.out _)|exact HI0.out)) hb);(try clear hb);refine hK.out _ _ ⟨(zF BKp0.out 0).trans rfl,(zF BKp0.out 1).trans rfl,(zF BKp0.out 2).trans rfl,(zF BKp0.out 3).trans rfl⟩ (fun hHeld=>?_);clear hK K;refine norm_ (a':=?_) ?_ ?_;rotate_left
    ·show Act.put _ (some 20) _=_
     simp only[Act.put,zH,zI,zJ,i64_w,i32_w];rfl
    refine pure_ (i:=10) (N:=some 10) #[J,J,J,J,J,J,J,J,J,J,J,O,O,O,O,O] rfl rfl (any_of HT_.out (by kernel_rfl)) (fun _ _ _ h=>h) (Or.inl ⟨by rfl,qy⟩) qz ?_;refine pure_ (i:=11) (N:=some 21) #[J,J,J,J,J,J,J,J,J,J,J,J,O,O,O,O] rfl rfl (any_of HT_.out (by kernel_rfl)) (fun _ _ _ h=>h) (Or.inl ⟨by rfl,qy⟩) qz ?_;refine pure_ (i:=12) (N:=some 22) #[J,J,J,J,J,J,J,J,J,J,J,J,J,O,O,O] rfl rfl (any_of HT_.out (by kernel_rfl)) (fun _ _ _ h=>h) (Or.inl ⟨by rfl,qy⟩) qz ?_;refine one_ (i:=13) (N:=some 5) #[J,J,J,J,J,J,J,J,J,J,J,J,J,J,O,O] rfl rfl (one_of HT_.out (by kernel_rfl)) (by decide) (fun K hK=>?_);refine box_step ?hg (N:=5) ?hd (cs:= #[.string (⟨#[]⟩:ByteArray),.int .i64 0]) (t:=135) ?hr ?_;(case hd=>rfl);(case hg=>rfl);(case hr=>first|(go_simp;done)|(go_simp;rfl));intro gb109 hg w22 hbox hb;have n0_:=zA (IsS31.below (by repeat(first|(with_reducible first|exact HI0.out|apply IsS31.alloc|apply IsS31.drewN|apply IsS31.drew|refine IsS31.far ?_ NB0_0.out _)|exact HI0.out)) hb);have n1_:=zA (qX BKp0.out hb);have n2_:=zA (zBq (qJ HK.out) (KeepBut.of_below hb g none) (.inl rfl));have n3_:=zA (zV (qH HI0.out HB.out) hb);have n4_:=zA (hbox);have n5_:=zA ((by rw[hg];exact(keep_size (w:=w) (g:=g) (row:=none) (qJ HK.out)):w.heap.size≤gb109));have n6_:=zA ((Nat.le_trans HW0.out (by rw[hg];exact(keep_size (w:=w) (g:=g) (row:=none) (qJ HK.out)):w.heap.size≤gb109):w0.heap.size≤gb109));have n7_:=zA ((by rw[hg];exact zLq (qL BKp0.out):g≠gb109));have n8_:=zA ((by rw[hg];exact zMq (qL BKp0.out):gb109≠g));have n9_:=zA ((by rw[hg];exact zLq (IsS31.lt (show IsS31 w0 _ g s0_0 s0_1 s0_2 s0_3 from by repeat(first|(with_reducible first|exact HI0.out|apply IsS31.alloc|apply IsS31.drewN|apply IsS31.drew|refine IsS31.far ?_ NB0_0.out _)|exact HI0.out))):g≠gb109));have n10_:=zA ((by rw[hg];exact zMq (IsS31.lt (show IsS31 w0 _ g s0_0 s0_1 s0_2 s0_3 from by repeat(first|(with_reducible first|exact HI0.out|apply IsS31.alloc|apply IsS31.drewN|apply IsS31.drew|refine IsS31.far ?_ NB0_0.out _)|exact HI0.out))):gb109≠g));clear HI0;clear BKp0;clear HK;clear HB;have HI0:=n0_;have BKp0:=n1_;have HK:=n2_;have HB:=n3_;have BK109:=n4_;have GW109:=n5_;have GE109:=n6_;have NB0_109:=n7_;have NB109_0:=n8_;have NB0_109:=n9_;have NB109_0:=n10_;clear n0_ n1_ n2_ n3_ n4_ n5_ n6_ n7_ n8_ n9_ n10_;clear hb hbox hg;refine hK.out _ _ ⟨(zF BKp0.out 0).trans rfl,(zF BKp0.out 1).trans rfl,(zF BKp0.out 2).trans rfl,(zF BKp0.out 3).trans rfl⟩ (fun hHeld=>?_)
    clear hK K;refine norm_ (a':=?_) ?_ ?_;rotate_left
    ·show Act.put _ (some 5) _=_
     simp only[Act.put,zH,zI,zJ,i64_w,i32_w];rfl
    exact norm_ (by simp only[putAll,Act.put,zH,zI,zJ]) (hCont (gb109) _ ⟨hHeld,(qW BK109.out),(qW BKp0.out),GW109.out,GE109.out,NB0_109.out,NB109_0.out,(by repeat(first|(with_reducible first|exact HI0.out|apply IsS31.alloc|apply IsS31.drewN|apply IsS31.drew|refine IsS31.far ?_ NB0_0.out _|refine IsS31.far ?_ NB0_109.out _)|exact HI0.out)),(qJ HK.out),(qH HI0.out HB.out)⟩)
   skip;refine box_step ?hg (N:=5) ?hd (cs:= #[.string (⟨#[]⟩:ByteArray),.int .i64 0]) (t:=135) ?hr ?_;(case hd=>rfl);(case hg=>rfl);(case hr=>first|(go_simp;done)|(go_simp;rfl));intro gb109 hg w21 hbox hb;have n0_:=zA (IsS31.below (by repeat(first|(with_reducible first|exact HI0.out|apply IsS31.alloc|apply IsS31.drewN|apply IsS31.drew|refine IsS31.far ?_ NB0_0.out _)|exact HI0.out)) hb);have n1_:=zA (qX BKp0.out hb);have n2_:=zA (zBq (qJ HK.out) (KeepBut.of_below hb g none) (.inl rfl));have n3_:=zA (zV (qH HI0.out HB.out) hb);have n4_:=zA (hbox);have n5_:=zA ((by rw[hg];exact(keep_size (w:=w) (g:=g) (row:=none) (qJ HK.out)):w.heap.size≤gb109));have n6_:=zA ((Nat.le_trans HW0.out (by rw[hg];exact(keep_size (w:=w) (g:=g) (row:=none) (qJ HK.out)):w.heap.size≤gb109):w0.heap.size≤gb109));have n7_:=zA ((by rw[hg];exact zLq (qL BKp0.out):g≠gb109));have n8_:=zA ((by rw[hg];exact zMq (qL BKp0.out):gb109≠g));have n9_:=zA ((by rw[hg];exact zLq (IsS31.lt (show IsS31 w0 _ g s0_0 s0_1 s0_2 s0_3 from by repeat(first|(with_reducible first|exact HI0.out|apply IsS31.alloc|apply IsS31.drewN|apply IsS31.drew|refine IsS31.far ?_ NB0_0.out _)|exact HI0.out))):g≠gb109));have n10_:=zA ((by rw[hg];exact zMq (IsS31.lt (show IsS31 w0 _ g s0_0 s0_1 s0_2 s0_3 from by repeat(first|(with_reducible first|exact HI0.out|apply IsS31.alloc|apply IsS31.drewN|apply IsS31.drew|refine IsS31.far ?_ NB0_0.out _)|exact HI0.out))):gb109≠g));clear HI0;clear BKp0;clear HK;clear HB;have HI0:=n0_;have BKp0:=n1_;have HK:=n2_;have HB:=n3_;have BK109:=n4_;have GW109:=n5_;have GE109:=n6_;have NB0_109:=n7_;have NB109_0:=n8_;have NB0_109:=n9_;have NB109_0:=n10_;clear n0_ n1_ n2_ n3_ n4_ n5_ n6_ n7_ n8_ n9_ n10_;clear hb hbox hg;refine hK.out _ _ ⟨(zF BKp0.out 0).trans rfl,(zF BKp0.out 1).trans rfl,(zF BKp0.out 2).trans rfl,(zF BKp0.out 3).trans rfl⟩ (fun hHeld=>?_);clear hK K;refine norm_ (a':=?_) ?_ ?_;rotate_left
   ·show Act.put _ (some 5) _=_
    simp only[Act.put,zH,zI,zJ,i64_w,i32_w];rfl
   refine one_ (i:=9) (N:=some 20) #[J,J,J,J,J,J,J,J,J,J,O,O,O,J,O,O] rfl rfl (one_of HT_.out (by kernel_rfl)) (by decide) (fun K hK=>?_);refine goes_ Try.func75 (by kernel_rfl) rfl #[.string s0_0,.int .i64 s0_1,.int .i64 a1] (by rfl) rfl rfl qG ?_;with_reducible refine(cC.calls k s0_0 s0_1 a1 t106 t107 t108 _ A5.out).mono ?_
   rintro e w22 ⟨rfl,hb⟩;refine⟨_,rfl,?_⟩;replace BKp0:=zA (qX BKp0.out hb);replace BK109:=zA (qX BK109.out hb);replace HK:=zA (zBq (qJ HK.out) (KeepBut.of_below hb g none) (.inl rfl));replace HB:=zA (zV (qH HI0.out HB.out) hb);replace HI0:=zA (IsS31.below (by repeat(first|(with_reducible first|exact HI0.out|apply IsS31.alloc|apply IsS31.drewN|apply IsS31.drew|refine IsS31.far ?_ NB0_0.out _|refine IsS31.far ?_ NB0_109.out _)|exact HI0.out)) hb);(try clear hb);refine hK.out _ _ ⟨(zF BKp0.out 0).trans rfl,(zF BKp0.out 1).trans rfl,(zF BKp0.out 2).trans rfl,(zF BKp0.out 3).trans rfl⟩ (fun hHeld=>?_);clear hK K;refine norm_ (a':=?_) ?_ ?_;rotate_left
   ·show Act.put _ (some 20) _=_
    simp only[Act.put,zH,zI,zJ,i64_w,i32_w];rfl
   refine pure_ (i:=10) (N:=some 10) #[J,J,J,J,J,J,J,J,J,J,J,O,O,J,O,O] rfl rfl (any_of HT_.out (by kernel_rfl)) (fun _ _ _ h=>h) (Or.inl ⟨by rfl,qy⟩) qz ?_;refine pure_ (i:=11) (N:=some 21) #[J,J,J,J,J,J,J,J,J,J,J,J,O,J,O,O] rfl rfl (any_of HT_.out (by kernel_rfl)) (fun _ _ _ h=>h) (Or.inl ⟨by rfl,qy⟩) qz ?_;refine pure_ (i:=12) (N:=some 22) #[J,J,J,J,J,J,J,J,J,J,J,J,J,J,O,O] rfl rfl (any_of HT_.out (by kernel_rfl)) (fun _ _ _ h=>h) (Or.inl ⟨by rfl,qy⟩) qz ?_;exact norm_ (by simp only[putAll,Act.put,zH,zI,zJ]) (hCont (gb109) _ ⟨hHeld,(qW BK109.out),(qW BKp0.out),GW109.out,GE109.out,NB0_109.out,NB109_0.out,(by repeat(first|(with_reducible first|exact HI0.out|apply IsS31.alloc|apply IsS31.drewN|apply IsS31.drew|refine IsS31.far ?_ NB0_0.out _|refine IsS31.far ?_ NB0_109.out _)|exact HI0.out)),(qJ HK.out),(qH HI0.out HB.out)⟩)
  rintro gb109 w23 ⟨hS_,h0_,h1_,h2_,h3_,h4_,h5_,h6_,h7_,h8_⟩;have n0_:Aside0 (w23.heap[gb109]? =some (.cells #[.string (⟨#[]⟩:ByteArray),.int .i64 0] 135 (0,0))):=⟨h0_⟩
  have n1_:Aside0 (w23.heap[g]? =some (.cells #[.string s0_0,.int .i64 s0_1,errW s0_2,.bool s0_3] 31 (0,0))):=⟨h1_⟩
  have n2_:Aside0 (w.heap.size≤gb109):=⟨h2_⟩
  have n3_:Aside0 (w0.heap.size≤gb109):=⟨h3_⟩
  have n4_:Aside0 (g≠gb109):=⟨h4_⟩
  have n5_:Aside0 (gb109≠g):=⟨h5_⟩
  have n6_:Aside0 (IsS31 w0 w23 g s0_0 s0_1 s0_2 s0_3):=⟨h6_⟩
  have n7_:Aside0 (KeepBut w w23 g none):=⟨h7_⟩
  have n8_:Aside0 (Below w0.heap.size w0 w23):=⟨h8_⟩
  clear BKp0;clear HI0;clear HK;clear HB;clear h0_ h1_ h2_ h3_ h4_ h5_ h6_ h7_ h8_;have BK109:=n0_;have BKp0:=n1_;have GW109:=n2_;have GE109:=n3_;have NB0_109:=n4_;have NB109_0:=n5_;have HI0:=n6_;have HK:=n7_;have HB:=n8_;clear n0_ n1_ n2_ n3_ n4_ n5_ n6_ n7_ n8_;have hHeld:w23.cell? ⟨g,0,none⟩=some (.string s0_0)∧w23.cell? ⟨g,1,none⟩=some (.int .i64 s0_1)∧w23.cell? ⟨g,2,none⟩=some (errW s0_2)∧w23.cell? ⟨g,3,none⟩=some (.bool s0_3):=hS_;refine norm_ (a':=?_) ?_ ?_;rotate_left
  ·simp only[putAll,Act.put,zH,zI,zJ]
   rfl
  refine one_ (i:=14) (N:=none) #[J,J,J,J,J,J,J,J,J,J,J,J,J,J,J,O] rfl rfl (one_of HT_.out (by kernel_rfl)) (by decide) (fun K hK=>?_);have hs24:w23.cell? ⟨gb109,0,none⟩=some (.string (⟨#[]⟩:ByteArray)):=(zF BK109.out 0).trans rfl;have hfs24:=zG BK109.out 0;have hns24_0:=NB0_109.out;have hms24_0:=NB109_0.out;have hs25:w23.cell? ⟨gb109,1,none⟩=some (.int .i64 0):=(zF BK109.out 1).trans rfl;have hfs25:=zG BK109.out 1;have hns25_0:=NB0_109.out;have hms25_0:=NB109_0.out;refine skip_ (w1:=?_) (by rfl) rfl ?_ ?_;rotate_left
  ·go_simp
   rfl
  refine hK.out _ _ ⟨((cell_far (p:=⟨gb109,_,none⟩) NB0_109.out _).trans (((cell_far (p:=⟨gb109,_,none⟩) NB0_109.out _).trans (hHeld.1)))),((cell_far (p:=⟨gb109,_,none⟩) NB0_109.out _).trans (((cell_far (p:=⟨gb109,_,none⟩) NB0_109.out _).trans (hHeld.2.1)))),((cell_far (p:=⟨gb109,_,none⟩) NB0_109.out _).trans (((cell_far (p:=⟨gb109,_,none⟩) NB0_109.out _).trans (hHeld.2.2.1)))),((cell_far (p:=⟨gb109,_,none⟩) NB0_109.out _).trans (((cell_far (p:=⟨gb109,_,none⟩) NB0_109.out _).trans (hHeld.2.2.2))))⟩ (fun hHeld=>?_);clear hK K;refine pure_ (i:=15) (N:=some 6) #[J,J,J,J,J,J,J,J,J,J,J,J,J,J,J,J] rfl rfl (any_of HT_.out (by kernel_rfl)) (fun _ _ _ h=>h) (Or.inl ⟨by rfl,qy⟩) qz ?_;refine done_ (done_of HT_.out (by kernel_rfl)) ?_;clear BKp0;have hnb26:=NB109_0.out;have hnc26:=NB0_109.out;obtain⟨_,_,_,_⟩:=qc2f BK109.out;try go_wp2_with (first|((with_reducible refine zJq (f:=74) rfl ?_);refine goesL_ (some 27) rfl rfl Try.func74 (by kernel_rfl) rfl #[.pointer (some ⟨g,0,none⟩),.int .i64 t107,.int .i64 t108] rfl qG ?_;(with_reducible refine(bQ.calls g s0_0 s0_1 s0_2 s0_3 t107 t108 false t111 t112 t113 t114 w0 _ ?side1 ?side2 A6.out).mono ?_);(case side1=>repeat(first|(with_reducible first|exact HI0.out|apply IsS31.alloc|apply IsS31.drewN|apply IsS31.drew|refine IsS31.far ?_ NB0_109.out _)|exact HI0.out));(case side2=>repeat(first|(with_reducible first|exact HB.out|apply zD|apply zB|apply zC|refine zE ?_ (IsS31.ge HI0.out)|refine zE ?_ GE109.out)|exact HB.out));rintro e w28 ⟨rfl,hi,hb,hk⟩;refine⟨_,rfl,?_⟩;replace BK109:=zA (KeepBut.blk hk (g':=gb109) (o:= .cells #[.string t106,.int .i64 t107] 135 (0,0)) (qV BK109.out) NB109_0.out (by simp));replace HK:=zA (zBq (qJ HK.out) hk (.inl rfl));replace HB:=zA (hb);replace HI0:=zA (hi);(try clear hb);(try clear hk);(try clear hi);(try simp only[errW_none,errW_some])))
  go_ret;exact⟨qE,by repeat(first|(with_reducible first|exact HI0.out|apply IsS31.alloc|apply IsS31.drewN|apply IsS31.drew|refine IsS31.far ?_ NB0_109.out _)|exact HI0.out),qH HI0.out HB.out,qJ HK.out⟩
 replace c4:=Bool.eq_false_iff.mpr c4
 subst c4
 have H1:(some ((⟨#[]⟩:ByteArray),s0_0,s0_1,s0_2,s0_3))=some (r1,r2,r3,r4,r5):=by first|(rw[if_neg (show ¬ (false=true) by decide)] at H;exact H)|rfl
 clear H
 have H:=H1
 clear H1
 simp only[zNq,zOq] at H
 obtain⟨rfl,rfl,rfl,rfl,rfl⟩:=H
 go_enter Try.func20,Try.ntmps20
 go_wp2_with (first|((with_reducible refine zJq (f:=72) rfl ?_);refine goesL_ (some 8) rfl rfl Try.func72 (by kernel_rfl) rfl #[.pointer (some ⟨g,0,none⟩)] rfl qG ?_;(with_reducible refine(bP.calls g s0_0 s0_1 s0_2 s0_3 false s0_0 s0_1 s0_2 s0_3 w0 _ ?side1 ?side2 A3.out).mono ?_);(case side1=>repeat(first|(with_reducible first|exact HI0.out|apply IsS31.alloc|apply IsS31.drewN|apply IsS31.drew)|exact HI0.out));(case side2=>repeat(first|(with_reducible first|exact HB.out|apply zD|apply zB|apply zC|refine zE ?_ (IsS31.ge HI0.out))|exact HB.out));rintro e w29 ⟨rfl,hi,hb,hk⟩;refine⟨_,rfl,?_⟩;replace HK:=zA (zBq (qJ HK.out) hk (.inl rfl));replace HB:=zA (hb);replace HI0:=zA (hi);(try clear hb);(try clear hk);(try clear hi);(try simp only[errW_none,errW_some])))
 go_ret
 exact⟨qE,by repeat(first|(with_reducible first|exact HI0.out|apply IsS31.alloc|apply IsS31.drewN|apply IsS31.drew)|exact HI0.out),qH HI0.out HB.out,qJ HK.out⟩
end Go.Proofs.Ytdpcgigjlcpofaa.F
