-- by prune.py (own program),out of the print
import Derived.Test.YtdpcgigjlcpofaaProg
import Derived.Below
import Derived.Deep.Draws
import Derived.Deep.AppendLies
import Derived.Maps.AppendAt
import Derived.OwnWalk
import Derived.Laws.BytesArg
import Derived.Laws.MakeOwn
import Derived.Laws.OwnMore
import Derived.Deep.OwnRows
import Derived.Tactics
import Derived.Lib.ConvBytes
import Derived.Laws.Slices
import Derived.WalkKit
import Derived.KernelRfl
import Derived.RowKit3
import Derived.Deep.LoopGhost
import Derived.Deep.QuietTactic
import Derived.BigQuiet
import Derived.WideLaws
import Derived.Deep.DeepCutAuto
import Derived.Deep.CutBlock
import Derived.Deep.RegionHeld3
import Derived.Laws.Rows
import Derived.Lib.AppendStr
import Derived.ArgAppend
import Derived.Laws.IdiomCopy
import Derived.OrdersHeld
import Derived.Laws.BitsLemmas
import Derived.RowKit
import Derived.Laws.StructEq
import Derived.Deep.RegionLawGrows
import Derived.Lib.SliceRun
import Derived.Test.YtdpcgigjlcpofaaZBatchCodes5
set_option maxHeartbeats 8000000
set_option maxRecDepth 100000
namespace Go.Proofs.Ytdpcgigjlcpofaa.F
open Go.RowKit Go.Proofs.YtdpcgigjlcpofaaX Go.Proofs.YtdpcgigjlcpofaaW.PrintWords Go.Proofs.YtdpcgigjlcpofaaW.PrintLast Go.Proofs.YtdpcgigjlcpofaaW.PrintMore
attribute [local go_sem] max2_int min2_int max_two min_two max_three min_three max_four min_four
attribute [local go_sem high] str_geq str_leq str_gtr
set_option linter.unusedVariables false
set_option linter.unusedSimpArgs false
mutual
def aE.l0:Nat→Int→Int→List (S169)→Option (Int)
  |0,_,_,_=>none
  |k+1,x3,x102000,x102001=>if x3 < x102000 then((aT.f k x102000 x102001 x3).bind fun t102=> (if t102 > 60 then(some 40)else(aE.l0 k (wrap64 (x3+1)) x102000 x102001)))else(aE.l1 k 0 x102000 x102001)
def aE.l1:Nat→Int→Int→List (S169)→Option (Int)
  |0,_,_,_=>none
  |k+1,x4,x102000,x102001=>if x4 < (x102001.length:Int)then(if 0≤x4 then(if((rd_T169 x102001 x4).f1) < 1 then(some 40)else(if((rd_T169 x102001 x4).f1) > 999999 then(some 40)else(if(((rd_T169 x102001 x4).f2).size:Int) > 200 then(some 40)else(if x4 > 0 then(if 0≤(wrap64 (x4 - 1))then(if(wrap64 (x4 - 1)) < (x102001.length:Int)then(if((rd_T169 x102001 (wrap64 (x4 - 1))).f0)=((rd_T169 x102001 x4).f0)then(if((rd_T169 x102001 (wrap64 (x4 - 1))).f1)≥((rd_T169 x102001 x4).f1)then(some 40)else(aE.l1 k (wrap64 (x4+1)) x102000 x102001))else(aE.l1 k (wrap64 (x4+1)) x102000 x102001))else(none))else(none))else(aE.l1 k (wrap64 (x4+1)) x102000 x102001)))))else(none))else(some 0)
end
def aE.f (k:Nat) (a0_0:Int) (l0_1:List (S169)):Option (Int):=if a0_0 > 8 then(some 40)else(aE.l0 k 0 a0_0 l0_1)
theorem aE.mono_l: ∀ k,(∀ y0 y1 y2,LeO (aE.l0 k y0 y1 y2) (aE.l0 (k+1) y0 y1 y2))∧(∀ y0 y1 y2,LeO (aE.l1 k y0 y1 y2) (aE.l1 (k+1) y0 y1 y2))
  |0=> ⟨fun _ _ _ r h=>by simp[aE.l0] at h,fun _ _ _ r h=>by simp[aE.l1] at h⟩
  |k+1=>by
    obtain⟨ih0,ih1⟩:=aE.mono_l k
    refine⟨?_,?_⟩
    · intro y0 y1 y2
      unfold aE.l0
      repeat' (with_reducible first|exact ih0 _ _ _|exact ih1 _ _ _|exact aT.mono _ _ _ _|exact LeO.refl _|exact LeO.none _|refine LeO.ite ?_ ?_|refine LeO.bind ?_ (fun _=>?_))
    intro y0 y1 y2
    unfold aE.l1
    repeat' (with_reducible first|exact ih0 _ _ _|exact ih1 _ _ _|exact aT.mono _ _ _ _|exact LeO.refl _|exact LeO.none _|refine LeO.ite ?_ ?_|refine LeO.bind ?_ (fun _=>?_))
theorem aE.mono: ∀ a0 a1 k,LeO (aE.f k a0 a1) (aE.f (k+1) a0 a1):=by
  intro a0 a1 k
  obtain⟨ih0,ih1⟩:=aE.mono_l k
  unfold aE.f
  repeat' (with_reducible first|exact ih0 _ _ _|exact ih1 _ _ _|exact aT.mono _ _ _ _|exact LeO.refl _|exact LeO.none _|refine LeO.ite ?_ ?_|refine LeO.bind ?_ (fun _=>?_))
theorem aE.calls (k:Nat) (a0_0:Int) (A0_1:Option Addr) (c0_1:Nat) (l0_1:List (S169)) (r:Int) (w:World) (hr0_1:Kd.C k169 w A0_1 l0_1.length l0_1) (hc0_1:l0_1.length≤c0_1) (h:aE.f k a0_0 l0_1=some r):
  Calls Try.prog 53 #[.agg #[.int .i64 a0_0,.slice A0_1 l0_1.length c0_1]] w fun e w'=>e= .returned (.int .i64 r)∧Below w.heap.size w w':=by
 have hu82:=Try.underlying82
 have hu169:=Try.underlying169
 have HR0_1:=zA hr0_1
 have HC0_1:=zA hc0_1
 clear hr0_1 hc0_1
 have HB:=zA (Below.refl w.heap.size w)
 have H:(if a0_0 > 8 then(some 40)else(aE.l0 k 0 a0_0 l0_1))=some r:=h
 clear h
 by_cases c2:a0_0 > 8
 ·rw[if_pos c2] at H
  have c2b0:decide (8 < a0_0)=true:=zFq c2;clear c2;obtain rfl:=zKq H;go_enter Try.func53,Try.ntmps53;go_wp2_with (first|((with_reducible refine gate_dst (N:=1) rfl ?_);(try(refine gate_guard (by rfl) ?_;dsimp only));refine box_event qr (N:=1) qr (cs:= #[.int .i64 a0_0,.slice A0_1 l0_1.length c0_1]) (t:=82) qg ?_;intro gb101 hg w3 hbox hb;have BK101:=zA (hbox);have GW101:=zA ((qS:w.heap.size≤gb101));have GE101:=zA ((qS:w.heap.size≤gb101));replace HB:=zA (zV qB hb);clear hb hbox hg;obtain⟨hcz4_0,hcz4_1,hfz4_0,hfz4_1⟩:=qc2f BK101.out));repeat(go_quiet (first|((with_reducible refine gate_dst (N:=1) rfl ?_);(try(refine gate_guard (by rfl) ?_;dsimp only));refine box_event qr (N:=1) qr (cs:= #[.int .i64 a0_0,.slice A0_1 l0_1.length c0_1]) (t:=82) qg ?_;intro gb101 hg w3 hbox hb;have BK101:=zA (hbox);have GW101:=zA ((qS:w.heap.size≤gb101));have GE101:=zA ((qS:w.heap.size≤gb101));replace HB:=zA (zV qB hb);clear hb hbox hg;obtain⟨hcz4_0,hcz4_1,hfz4_0,hfz4_1⟩:=qc2f BK101.out));try go_wp2_with (first|((with_reducible refine gate_dst (N:=1) rfl ?_);(try(refine gate_guard (by rfl) ?_;dsimp only));refine box_event qr (N:=1) qr (cs:= #[.int .i64 a0_0,.slice A0_1 l0_1.length c0_1]) (t:=82) qg ?_;intro gb101 hg w3 hbox hb;have BK101:=zA (hbox);have GW101:=zA ((qS:w.heap.size≤gb101));have GE101:=zA ((qS:w.heap.size≤gb101));replace HB:=zA (zV qB hb);clear hb hbox hg;obtain⟨hcz4_0,hcz4_1,hfz4_0,hfz4_1⟩:=qc2f BK101.out)))
  go_ret;exact⟨qE,qB⟩
 rw[if_neg c2] at H
 have c2b0:decide (8 < a0_0)=false:=zGq c2
 clear c2
 have H':=zA H
 clear H
 go_enter Try.func53,Try.ntmps53
 go_wp2_with (first|((with_reducible refine gate_dst (N:=1) rfl ?_);(try(refine gate_guard (by rfl) ?_;dsimp only));refine box_event qr (N:=1) qr (cs:= #[.int .i64 a0_0,.slice A0_1 l0_1.length c0_1]) (t:=82) qg ?_;intro gb101 hg w5 hbox hb;have BK101:=zA (hbox);have GW101:=zA ((qS:w.heap.size≤gb101));have GE101:=zA ((qS:w.heap.size≤gb101));replace HB:=zA (zV qB hb);clear hb hbox hg;obtain⟨hcz6_0,hcz6_1,hfz6_0,hfz6_1⟩:=qc2f BK101.out))
 repeat(go_quiet (first|((with_reducible refine gate_dst (N:=1) rfl ?_);(try(refine gate_guard (by rfl) ?_;dsimp only));refine box_event qr (N:=1) qr (cs:= #[.int .i64 a0_0,.slice A0_1 l0_1.length c0_1]) (t:=82) qg ?_;intro gb101 hg w5 hbox hb;have BK101:=zA (hbox);have GW101:=zA ((qS:w.heap.size≤gb101));have GE101:=zA ((qS:w.heap.size≤gb101));replace HB:=zA (zV qB hb);clear hb hbox hg;obtain⟨hcz6_0,hcz6_1,hfz6_0,hfz6_1⟩:=qc2f BK101.out));try go_wp2_with (first|((with_reducible refine gate_dst (N:=1) rfl ?_);(try(refine gate_guard (by rfl) ?_;dsimp only));refine box_event qr (N:=1) qr (cs:= #[.int .i64 a0_0,.slice A0_1 l0_1.length c0_1]) (t:=82) qg ?_;intro gb101 hg w5 hbox hb;have BK101:=zA (hbox);have GW101:=zA ((qS:w.heap.size≤gb101));have GE101:=zA ((qS:w.heap.size≤gb101));replace HB:=zA (zV qB hb);clear hb hbox hg;obtain⟨hcz6_0,hcz6_1,hfz6_0,hfz6_1⟩:=qc2f BK101.out)))
 go_loopg[3] k (fun kq v3 w'=> ∃ (x3_1:Int),v3= .int .i64 x3_1∧Aside0 (aE.l0 kq x3_1 a0_0 l0_1=some r)∧Aside0 (kq≤k)∧Aside0 (w'.heap[gb101]? =some (.cells #[.int .i64 a0_0,(.slice A0_1 l0_1.length c0_1)] 82 (0,0)))∧Aside0 (Below w.heap.size w w'))
 case atStart=>exact⟨(0),qF_,H',⟨Nat.le_refl _⟩,⟨by exact BK101.out⟩,⟨qB⟩⟩
 case round=>
  clear H';try clear c2
  try clear c2b0
  try clear p2
  try clear c5
  try clear hcz4_0
  try clear hcz4_1
  try clear hcz6_0
  try clear hcz6_1
  try clear hfz4_0
  try clear hfz4_1
  try clear hfz6_0
  try clear hfz6_1
  obtain⟨x3_1,rfl,HA,HK1,BK101,HB⟩:=hrel;cases gk with
  |zero=>exact absurd HA.out (by simp[aE.l0])
  |succ k1=>
   have H:=HA.out;clear HA;simp only[aE.l0] at H;by_cases c7:x3_1 < a0_0
   ·rw[if_pos c7] at H
    have c7b0:=zFq c7;clear c7;obtain⟨t102,A8,H⟩:=qD_ H;(try dsimp only at H);by_cases c9:t102 > 60
    ·rw[if_pos c9] at H
     have c9b0:decide (60 < t102)=true:=zFq c9;clear c9;obtain rfl:=zKq H;obtain⟨_,_,_,_⟩:=qc2f BK101.out;go_wp2_with (first|(go_at_call 107;(with_reducible refine(aT.calls k1 a0_0 _ _ l0_1 x3_1 t102 _ ?side1 ?side2 A8.out).mono ?_);(case side1=>exact qC (Kd.C_below HR0_1.out HB.out));(case side2=>exact HC0_1.out);rintro e w11 ⟨rfl,hb⟩;replace BK101:=zA (qX BK101.out hb);replace HB:=zA (zV qB hb);(try clear hb)));repeat(go_quiet (first|(go_at_call 107;(with_reducible refine(aT.calls k1 a0_0 _ _ l0_1 x3_1 t102 _ ?side1 ?side2 A8.out).mono ?_);(case side1=>exact qC (Kd.C_below HR0_1.out HB.out));(case side2=>exact HC0_1.out);rintro e w11 ⟨rfl,hb⟩;replace BK101:=zA (qX BK101.out hb);replace HB:=zA (zV qB hb);(try clear hb)));try go_wp2_with (first|(go_at_call 107;(with_reducible refine(aT.calls k1 a0_0 _ _ l0_1 x3_1 t102 _ ?side1 ?side2 A8.out).mono ?_);(case side1=>exact qC (Kd.C_below HR0_1.out HB.out));(case side2=>exact HC0_1.out);rintro e w11 ⟨rfl,hb⟩;replace BK101:=zA (qX BK101.out hb);replace HB:=zA (zV qB hb);(try clear hb))))
     go_ret;exact⟨qE,qB⟩
    rw[if_neg c9] at H;have c9b0:decide (60 < t102)=false:=zGq c9;clear c9;have H':=zA H;clear H;obtain⟨_,_,_,_⟩:=qc2f BK101.out;go_wp2_with (first|(go_at_call 107;(with_reducible refine(aT.calls k1 a0_0 _ _ l0_1 x3_1 t102 _ ?side1 ?side2 A8.out).mono ?_);(case side1=>exact qC (Kd.C_below HR0_1.out HB.out));(case side2=>exact HC0_1.out);rintro e w13 ⟨rfl,hb⟩;replace BK101:=zA (qX BK101.out hb);replace HB:=zA (zV qB hb);(try clear hb)));repeat(go_quiet (first|(go_at_call 107;(with_reducible refine(aT.calls k1 a0_0 _ _ l0_1 x3_1 t102 _ ?side1 ?side2 A8.out).mono ?_);(case side1=>exact qC (Kd.C_below HR0_1.out HB.out));(case side2=>exact HC0_1.out);rintro e w13 ⟨rfl,hb⟩;replace BK101:=zA (qX BK101.out hb);replace HB:=zA (zV qB hb);(try clear hb)));try go_wp2_with (first|(go_at_call 107;(with_reducible refine(aT.calls k1 a0_0 _ _ l0_1 x3_1 t102 _ ?side1 ?side2 A8.out).mono ?_);(case side1=>exact qC (Kd.C_below HR0_1.out HB.out));(case side2=>exact HC0_1.out);rintro e w13 ⟨rfl,hb⟩;replace BK101:=zA (qX BK101.out hb);replace HB:=zA (zV qB hb);(try clear hb))))
    go_roundg k1
    case measure=>have:=HK1.out;omega
    case rel=>exact⟨(wrap64 (x3_1+1)),qF_,H',⟨by have:=HK1.out;omega⟩,⟨by exact BK101.out⟩,⟨qB⟩⟩
   rw[if_neg c7] at H;have c7b0:=zGq c7;clear c7;have H':=zA H;clear H;obtain⟨_,_,_,_⟩:=qc2f BK101.out;go_wp2;repeat(go_quiet (fail);try go_wp2)
   go_loopg[4] k1 (fun kq v4 w'=> ∃ (x4_2:Int),v4= .int .i64 x4_2∧Aside0 (aE.l1 kq x4_2 a0_0 l0_1=some r)∧Aside0 (kq≤k1)∧Aside0 (w'.heap[gb101]? =some (.cells #[.int .i64 a0_0,(.slice A0_1 l0_1.length c0_1)] 82 (0,0)))∧Aside0 (Below w.heap.size w w'))
   case atStart=>exact⟨(0),qF_,H',⟨Nat.le_refl _⟩,⟨by exact BK101.out⟩,⟨qB⟩⟩
   case round=>
    clear H';try clear c2
    try clear c2b0
    try clear p2
    try clear c5
    try clear p6
    try clear c7
    try clear c7b0
    try clear c9
    try clear c9b0
    try clear hcz4_0
    try clear hcz4_1
    try clear hcz6_0
    try clear hcz6_1
    try clear hfz4_0
    try clear hfz4_1
    try clear hfz6_0
    try clear hfz6_1
    try clear p2
    obtain⟨x4_2,rfl,HA,HK2,BK101,HB⟩:=hrel;cases gk with
    |zero=>exact absurd HA.out (by simp[aE.l1])
    |succ k2=>
     have H:=HA.out;clear HA;simp only[aE.l1] at H;by_cases c15:x4_2 < (l0_1.length:Int)
     ·rw[if_pos c15] at H
      have c15b0:=zFq c15;clear c15;by_cases c16:0≤x4_2
      ·rw[if_pos c16] at H
       have c16b0:=zFq c16;clear c16;by_cases c17:((rd_T169 l0_1 x4_2).f1) < 1
       ·rw[if_pos c17] at H
        have c17b0:=zFq c17;clear c17;obtain rfl:=zKq H;obtain⟨_,_,_,_⟩:=qc2f BK101.out;have p103:0≤(x4_2:Int):=qO_;have q103:x4_2 < (l0_1.length:Int):=qO_;obtain⟨ad103,e103,hx103_0,hx103_1,hx103_2⟩:=at_T169 HR0_1.out x4_2 p103 q103;cases e103
        replace hx103_0:=qU_ hx103_0;replace hx103_1:=qU_ hx103_1;replace hx103_2:=qU_ hx103_2;replace p103:=eq_true p103;replace q103:=eq_true q103;go_wp2_with (first|((with_reducible refine gate_dst (N:=5) rfl ?_);(try(refine gate_guard (by rfl) ?_;dsimp only));refine box_event qr (N:=5) qr (cs:= #[.int .i64 0,.int .i64 0,.string (⟨#[]⟩:ByteArray)]) (t:=169) qg ?_;intro gb104 hg w19 hbox hb;have BK104:=zA (hbox);have GW104:=zA ((qS:w.heap.size≤gb104));have GE104:=zA ((qS:w.heap.size≤gb104));replace HB:=zA (zV qB hb);have NB101_104:=zA ((by rw[hg];exact zLq (qL BK101.out):gb101≠gb104));have NB104_101:=zA ((by rw[hg];exact zMq (qL BK101.out):gb104≠gb101));replace BK101:=zA (qX BK101.out hb);clear hb hbox hg;have hnb20:=NB104_101.out;have hnc20:=NB101_104.out;obtain⟨hcz21_0,hcz21_1,hcz21_2,hfz21_0,hfz21_1,hfz21_2⟩:=qc3f BK104.out));repeat(go_quiet (first|((with_reducible refine gate_dst (N:=5) rfl ?_);(try(refine gate_guard (by rfl) ?_;dsimp only));refine box_event qr (N:=5) qr (cs:= #[.int .i64 0,.int .i64 0,.string (⟨#[]⟩:ByteArray)]) (t:=169) qg ?_;intro gb104 hg w19 hbox hb;have BK104:=zA (hbox);have GW104:=zA ((qS:w.heap.size≤gb104));have GE104:=zA ((qS:w.heap.size≤gb104));replace HB:=zA (zV qB hb);have NB101_104:=zA ((by rw[hg];exact zLq (qL BK101.out):gb101≠gb104));have NB104_101:=zA ((by rw[hg];exact zMq (qL BK101.out):gb104≠gb101));replace BK101:=zA (qX BK101.out hb);clear hb hbox hg;have hnb20:=NB104_101.out;have hnc20:=NB101_104.out;obtain⟨hcz21_0,hcz21_1,hcz21_2,hfz21_0,hfz21_1,hfz21_2⟩:=qc3f BK104.out));try go_wp2_with (first|((with_reducible refine gate_dst (N:=5) rfl ?_);(try(refine gate_guard (by rfl) ?_;dsimp only));refine box_event qr (N:=5) qr (cs:= #[.int .i64 0,.int .i64 0,.string (⟨#[]⟩:ByteArray)]) (t:=169) qg ?_;intro gb104 hg w19 hbox hb;have BK104:=zA (hbox);have GW104:=zA ((qS:w.heap.size≤gb104));have GE104:=zA ((qS:w.heap.size≤gb104));replace HB:=zA (zV qB hb);have NB101_104:=zA ((by rw[hg];exact zLq (qL BK101.out):gb101≠gb104));have NB104_101:=zA ((by rw[hg];exact zMq (qL BK101.out):gb104≠gb101));replace BK101:=zA (qX BK101.out hb);clear hb hbox hg;have hnb20:=NB104_101.out;have hnc20:=NB101_104.out;obtain⟨hcz21_0,hcz21_1,hcz21_2,hfz21_0,hfz21_1,hfz21_2⟩:=qc3f BK104.out)))
        go_ret;exact⟨qE,qB⟩
       rw[if_neg c17] at H;have c17b0:=zGq c17;clear c17;by_cases c22:((rd_T169 l0_1 x4_2).f1) > 999999
       ·rw[if_pos c22] at H
        have c22b0:decide (999999 < ((rd_T169 l0_1 x4_2).f1))=true:=zFq c22;clear c22;obtain rfl:=zKq H;obtain⟨_,_,_,_⟩:=qc2f BK101.out;have p103:0≤(x4_2:Int):=qO_;have q103:x4_2 < (l0_1.length:Int):=qO_;obtain⟨ad103,e103,hx103_0,hx103_1,hx103_2⟩:=at_T169 HR0_1.out x4_2 p103 q103;cases e103
        replace hx103_0:=qU_ hx103_0;replace hx103_1:=qU_ hx103_1;replace hx103_2:=qU_ hx103_2;replace p103:=eq_true p103;replace q103:=eq_true q103;go_wp2_with (first|((with_reducible refine gate_dst (N:=5) rfl ?_);(try(refine gate_guard (by rfl) ?_;dsimp only));refine box_event qr (N:=5) qr (cs:= #[.int .i64 0,.int .i64 0,.string (⟨#[]⟩:ByteArray)]) (t:=169) qg ?_;intro gb104 hg w24 hbox hb;have BK104:=zA (hbox);have GW104:=zA ((qS:w.heap.size≤gb104));have GE104:=zA ((qS:w.heap.size≤gb104));replace HB:=zA (zV qB hb);have NB101_104:=zA ((by rw[hg];exact zLq (qL BK101.out):gb101≠gb104));have NB104_101:=zA ((by rw[hg];exact zMq (qL BK101.out):gb104≠gb101));replace BK101:=zA (qX BK101.out hb);clear hb hbox hg;have hnb25:=NB104_101.out;have hnc25:=NB101_104.out;obtain⟨hcz26_0,hcz26_1,hcz26_2,hfz26_0,hfz26_1,hfz26_2⟩:=qc3f BK104.out));repeat(go_quiet (first|((with_reducible refine gate_dst (N:=5) rfl ?_);(try(refine gate_guard (by rfl) ?_;dsimp only));refine box_event qr (N:=5) qr (cs:= #[.int .i64 0,.int .i64 0,.string (⟨#[]⟩:ByteArray)]) (t:=169) qg ?_;intro gb104 hg w24 hbox hb;have BK104:=zA (hbox);have GW104:=zA ((qS:w.heap.size≤gb104));have GE104:=zA ((qS:w.heap.size≤gb104));replace HB:=zA (zV qB hb);have NB101_104:=zA ((by rw[hg];exact zLq (qL BK101.out):gb101≠gb104));have NB104_101:=zA ((by rw[hg];exact zMq (qL BK101.out):gb104≠gb101));replace BK101:=zA (qX BK101.out hb);clear hb hbox hg;have hnb25:=NB104_101.out;have hnc25:=NB101_104.out;obtain⟨hcz26_0,hcz26_1,hcz26_2,hfz26_0,hfz26_1,hfz26_2⟩:=qc3f BK104.out));try go_wp2_with (first|((with_reducible refine gate_dst (N:=5) rfl ?_);(try(refine gate_guard (by rfl) ?_;dsimp only));refine box_event qr (N:=5) qr (cs:= #[.int .i64 0,.int .i64 0,.string (⟨#[]⟩:ByteArray)]) (t:=169) qg ?_;intro gb104 hg w24 hbox hb;have BK104:=zA (hbox);have GW104:=zA ((qS:w.heap.size≤gb104));have GE104:=zA ((qS:w.heap.size≤gb104));replace HB:=zA (zV qB hb);have NB101_104:=zA ((by rw[hg];exact zLq (qL BK101.out):gb101≠gb104));have NB104_101:=zA ((by rw[hg];exact zMq (qL BK101.out):gb104≠gb101));replace BK101:=zA (qX BK101.out hb);clear hb hbox hg;have hnb25:=NB104_101.out;have hnc25:=NB101_104.out;obtain⟨hcz26_0,hcz26_1,hcz26_2,hfz26_0,hfz26_1,hfz26_2⟩:=qc3f BK104.out)))
        go_ret;exact⟨qE,qB⟩
       rw[if_neg c22] at H;have c22b0:decide (999999 < ((rd_T169 l0_1 x4_2).f1))=false:=zGq c22;clear c22;by_cases c27:(((rd_T169 l0_1 x4_2).f2).size:Int) > 200
       ·rw[if_pos c27] at H
        have c27b0:decide (200 < (((rd_T169 l0_1 x4_2).f2).size:Int))=true:=zFq c27;have c27b1:decide (200 < ((rd_T169 l0_1 x4_2).f2).size)=true:=zFq (by omega);clear c27;obtain rfl:=zKq H;obtain⟨_,_,_,_⟩:=qc2f BK101.out;have p103:0≤(x4_2:Int):=qO_;have q103:x4_2 < (l0_1.length:Int):=qO_;obtain⟨ad103,e103,hx103_0,hx103_1,hx103_2⟩:=at_T169 HR0_1.out x4_2 p103 q103;cases e103
        replace hx103_0:=qU_ hx103_0;replace hx103_1:=qU_ hx103_1;replace hx103_2:=qU_ hx103_2;replace p103:=eq_true p103;replace q103:=eq_true q103;go_wp2_with (first|((with_reducible refine gate_dst (N:=5) rfl ?_);(try(refine gate_guard (by rfl) ?_;dsimp only));refine box_event qr (N:=5) qr (cs:= #[.int .i64 0,.int .i64 0,.string (⟨#[]⟩:ByteArray)]) (t:=169) qg ?_;intro gb104 hg w29 hbox hb;have BK104:=zA (hbox);have GW104:=zA ((qS:w.heap.size≤gb104));have GE104:=zA ((qS:w.heap.size≤gb104));replace HB:=zA (zV qB hb);have NB101_104:=zA ((by rw[hg];exact zLq (qL BK101.out):gb101≠gb104));have NB104_101:=zA ((by rw[hg];exact zMq (qL BK101.out):gb104≠gb101));replace BK101:=zA (qX BK101.out hb);clear hb hbox hg;have hnb30:=NB104_101.out;have hnc30:=NB101_104.out;obtain⟨hcz31_0,hcz31_1,hcz31_2,hfz31_0,hfz31_1,hfz31_2⟩:=qc3f BK104.out));repeat(go_quiet (first|((with_reducible refine gate_dst (N:=5) rfl ?_);(try(refine gate_guard (by rfl) ?_;dsimp only));refine box_event qr (N:=5) qr (cs:= #[.int .i64 0,.int .i64 0,.string (⟨#[]⟩:ByteArray)]) (t:=169) qg ?_;intro gb104 hg w29 hbox hb;have BK104:=zA (hbox);have GW104:=zA ((qS:w.heap.size≤gb104));have GE104:=zA ((qS:w.heap.size≤gb104));replace HB:=zA (zV qB hb);have NB101_104:=zA ((by rw[hg];exact zLq (qL BK101.out):gb101≠gb104));have NB104_101:=zA ((by rw[hg];exact zMq (qL BK101.out):gb104≠gb101));replace BK101:=zA (qX BK101.out hb);clear hb hbox hg;have hnb30:=NB104_101.out;have hnc30:=NB101_104.out;obtain⟨hcz31_0,hcz31_1,hcz31_2,hfz31_0,hfz31_1,hfz31_2⟩:=qc3f BK104.out));try go_wp2_with (first|((with_reducible refine gate_dst (N:=5) rfl ?_);(try(refine gate_guard (by rfl) ?_;dsimp only));refine box_event qr (N:=5) qr (cs:= #[.int .i64 0,.int .i64 0,.string (⟨#[]⟩:ByteArray)]) (t:=169) qg ?_;intro gb104 hg w29 hbox hb;have BK104:=zA (hbox);have GW104:=zA ((qS:w.heap.size≤gb104));have GE104:=zA ((qS:w.heap.size≤gb104));replace HB:=zA (zV qB hb);have NB101_104:=zA ((by rw[hg];exact zLq (qL BK101.out):gb101≠gb104));have NB104_101:=zA ((by rw[hg];exact zMq (qL BK101.out):gb104≠gb101));replace BK101:=zA (qX BK101.out hb);clear hb hbox hg;have hnb30:=NB104_101.out;have hnc30:=NB101_104.out;obtain⟨hcz31_0,hcz31_1,hcz31_2,hfz31_0,hfz31_1,hfz31_2⟩:=qc3f BK104.out)))
        go_ret;exact⟨qE,qB⟩
       rw[if_neg c27] at H;have c27b0:decide (200 < (((rd_T169 l0_1 x4_2).f2).size:Int))=false:=zGq c27;have c27b1:decide (200 < ((rd_T169 l0_1 x4_2).f2).size)=false:=zGq (by omega);clear c27;by_cases c32:x4_2 > 0
       ·rw[if_pos c32] at H
        have c32b0:decide (0 < x4_2)=true:=zFq c32;clear c32;obtain⟨ji33,hji33⟩: ∃ j_:Int,(wrap64 (x4_2 - 1))=j_:=⟨_,rfl⟩
        replace H:(if 0≤(ji33)then(if(ji33) < (l0_1.length:Int)then(if((rd_T169 l0_1 (ji33)).f0)=((rd_T169 l0_1 x4_2).f0)then(if((rd_T169 l0_1 (ji33)).f1)≥((rd_T169 l0_1 x4_2).f1)then(some 40)else(aE.l1 k2 (wrap64 (x4_2+1)) a0_0 l0_1))else(aE.l1 k2 (wrap64 (x4_2+1)) a0_0 l0_1))else(none))else(none))=some r:=by first|(rw[hji33] at H;exact H)|(simp only[hji33] at H⊢;exact H)
        have hji33w:(IntKind.i64.wrap (x4_2 - 1))=ji33:=(i64_w _).trans hji33;by_cases c34:0≤(ji33)
        ·rw[if_pos c34] at H
         have c34b0:=zFq c34;clear c34;by_cases c35:(ji33) < (l0_1.length:Int)
         ·rw[if_pos c35] at H
          have c35b0:=zFq c35;clear c35;by_cases c36:((rd_T169 l0_1 (ji33)).f0)=((rd_T169 l0_1 x4_2).f0)
          ·rw[if_pos c36] at H
           have c36b0:(((rd_T169 l0_1 (ji33)).f0)==((rd_T169 l0_1 x4_2).f0))=true:=beq_iff_eq.mpr c36;have c36b1:(((rd_T169 l0_1 (ji33)).f0) !=((rd_T169 l0_1 x4_2).f0))=false:=bne_eq_false_iff_eq.mpr c36;clear c36;by_cases c37:((rd_T169 l0_1 (ji33)).f1)≥((rd_T169 l0_1 x4_2).f1)
           ·rw[if_pos c37] at H
            have c37b0:decide (((rd_T169 l0_1 x4_2).f1)≤((rd_T169 l0_1 (ji33)).f1))=true:=zFq c37;clear c37;obtain rfl:=zKq H;obtain⟨_,_,_,_⟩:=qc2f BK101.out;have p103:0≤(x4_2:Int):=qO_;have q103:x4_2 < (l0_1.length:Int):=qO_;obtain⟨ad103,e103,hx103_0,hx103_1,hx103_2⟩:=at_T169 HR0_1.out x4_2 p103 q103;cases e103
            replace hx103_0:=qU_ hx103_0;replace hx103_1:=qU_ hx103_1;replace hx103_2:=qU_ hx103_2;replace p103:=eq_true p103;replace q103:=eq_true q103;go_wp2_with (first|((with_reducible refine gate_dst (N:=5) rfl ?_);(try(refine gate_guard (by rfl) ?_;dsimp only));refine box_event qr (N:=5) qr (cs:= #[.int .i64 0,.int .i64 0,.string (⟨#[]⟩:ByteArray)]) (t:=169) qg ?_;intro gb104 hg w39 hbox hb;have BK104:=zA (hbox);have GW104:=zA ((qS:w.heap.size≤gb104));have GE104:=zA ((qS:w.heap.size≤gb104));replace HB:=zA (zV qB hb);have NB101_104:=zA ((by rw[hg];exact zLq (qL BK101.out):gb101≠gb104));have NB104_101:=zA ((by rw[hg];exact zMq (qL BK101.out):gb104≠gb101));replace BK101:=zA (qX BK101.out hb);clear hb hbox hg;have hnb40:=NB104_101.out;have hnc40:=NB101_104.out;obtain⟨hcz41_0,hcz41_1,hcz41_2,hfz41_0,hfz41_1,hfz41_2⟩:=qc3f BK104.out;obtain⟨hcz42_0,hcz42_1,hfz42_0,hfz42_1⟩:=qc2f BK101.out;have p105:0≤((ji33):Int):=qO_;have q105:(ji33) < (l0_1.length:Int):=qO_;obtain⟨ad105,e105,hx105_0,hx105_1,hx105_2⟩:=at_T169 HR0_1.out (ji33) p105 q105;obtain rfl:ad103=ad105:=(by injection e105);have hn105_0:ad103.block≠gb104:=zLq (Nat.lt_of_lt_of_le (by have:=zCq _ _ hx105_0;first|rwa [add_block] at this|exact this) GW104.out);have hn105_1:ad103.block≠gb104:=zLq (Nat.lt_of_lt_of_le (by have:=zCq _ _ hx105_0;first|rwa [add_block] at this|exact this) GW104.out);have hn105_2:ad103.block≠gb104:=zLq (Nat.lt_of_lt_of_le (by have:=zCq _ _ hx105_0;first|rwa [add_block] at this|exact this) GW104.out);replace hx105_0:=qU_ hx105_0;replace hx105_1:=qU_ hx105_1;replace hx105_2:=qU_ hx105_2;replace hx105_0:=(cell_far (p:=⟨gb104,0,none⟩) (by first|(rw[add_block];exact hn105_0)|(show(Addr.add _ _).block≠_;rw[add_block];exact hn105_0)|exact hn105_0) (.int .i64 ((rd_T169 l0_1 x4_2).f0))).trans hx105_0;replace hx105_1:=(cell_far (p:=⟨gb104,0,none⟩) (by first|(rw[add_block];exact hn105_0)|(show(Addr.add _ _).block≠_;rw[add_block];exact hn105_0)|exact hn105_0) (.int .i64 ((rd_T169 l0_1 x4_2).f0))).trans hx105_1;replace hx105_2:=(cell_far (p:=⟨gb104,0,none⟩) (by first|(rw[add_block];exact hn105_0)|(show(Addr.add _ _).block≠_;rw[add_block];exact hn105_0)|exact hn105_0) (.int .i64 ((rd_T169 l0_1 x4_2).f0))).trans hx105_2;replace hx105_0:=(cell_far (p:=⟨gb104,1,none⟩) (by first|(rw[add_block];exact hn105_1)|(show(Addr.add _ _).block≠_;rw[add_block];exact hn105_1)|exact hn105_1) (.int .i64 ((rd_T169 l0_1 x4_2).f1))).trans hx105_0;replace hx105_1:=(cell_far (p:=⟨gb104,1,none⟩) (by first|(rw[add_block];exact hn105_1)|(show(Addr.add _ _).block≠_;rw[add_block];exact hn105_1)|exact hn105_1) (.int .i64 ((rd_T169 l0_1 x4_2).f1))).trans hx105_1;replace hx105_2:=(cell_far (p:=⟨gb104,1,none⟩) (by first|(rw[add_block];exact hn105_1)|(show(Addr.add _ _).block≠_;rw[add_block];exact hn105_1)|exact hn105_1) (.int .i64 ((rd_T169 l0_1 x4_2).f1))).trans hx105_2;replace hx105_0:=(cell_far (p:=⟨gb104,2,none⟩) (by first|(rw[add_block];exact hn105_2)|(show(Addr.add _ _).block≠_;rw[add_block];exact hn105_2)|exact hn105_2) (.string ((rd_T169 l0_1 x4_2).f2))).trans hx105_0;replace hx105_1:=(cell_far (p:=⟨gb104,2,none⟩) (by first|(rw[add_block];exact hn105_2)|(show(Addr.add _ _).block≠_;rw[add_block];exact hn105_2)|exact hn105_2) (.string ((rd_T169 l0_1 x4_2).f2))).trans hx105_1;replace hx105_2:=(cell_far (p:=⟨gb104,2,none⟩) (by first|(rw[add_block];exact hn105_2)|(show(Addr.add _ _).block≠_;rw[add_block];exact hn105_2)|exact hn105_2) (.string ((rd_T169 l0_1 x4_2).f2))).trans hx105_2;(try have hy105_0:=fun(n_:Nat)=> (show(((((w39.drewN n_).setCell ⟨gb104,0,none⟩ (.int .i64 ((rd_T169 l0_1 x4_2).f0))).setCell ⟨gb104,1,none⟩ (.int .i64 ((rd_T169 l0_1 x4_2).f1))).setCell ⟨gb104,2,none⟩ (.string ((rd_T169 l0_1 x4_2).f2)))).cell? _=some _ from hx105_0));(try have hy105_1:=fun(n_:Nat)=> (show(((((w39.drewN n_).setCell ⟨gb104,0,none⟩ (.int .i64 ((rd_T169 l0_1 x4_2).f0))).setCell ⟨gb104,1,none⟩ (.int .i64 ((rd_T169 l0_1 x4_2).f1))).setCell ⟨gb104,2,none⟩ (.string ((rd_T169 l0_1 x4_2).f2)))).cell? _=some _ from hx105_1));(try have hy105_2:=fun(n_:Nat)=> (show(((((w39.drewN n_).setCell ⟨gb104,0,none⟩ (.int .i64 ((rd_T169 l0_1 x4_2).f0))).setCell ⟨gb104,1,none⟩ (.int .i64 ((rd_T169 l0_1 x4_2).f1))).setCell ⟨gb104,2,none⟩ (.string ((rd_T169 l0_1 x4_2).f2)))).cell? _=some _ from hx105_2));clear hn105_0 hn105_1 hn105_2;replace p105:=eq_true p105;replace q105:=eq_true q105;have p106:0≤((ji33):Int):=qO_;have q106:(ji33) < (l0_1.length:Int):=qO_;obtain⟨ad106,e106,hx106_0,hx106_1,hx106_2⟩:=at_T169 HR0_1.out (ji33) p106 q106;obtain rfl:ad103=ad106:=(by injection e106);have hn106_0:ad103.block≠gb104:=zLq (Nat.lt_of_lt_of_le (by have:=zCq _ _ hx106_0;first|rwa [add_block] at this|exact this) GW104.out);have hn106_1:ad103.block≠gb104:=zLq (Nat.lt_of_lt_of_le (by have:=zCq _ _ hx106_0;first|rwa [add_block] at this|exact this) GW104.out);have hn106_2:ad103.block≠gb104:=zLq (Nat.lt_of_lt_of_le (by have:=zCq _ _ hx106_0;first|rwa [add_block] at this|exact this) GW104.out);replace hx106_0:=qU_ hx106_0;replace hx106_1:=qU_ hx106_1;replace hx106_2:=qU_ hx106_2;replace hx106_0:=(cell_far (p:=⟨gb104,0,none⟩) (by first|(rw[add_block];exact hn106_0)|(show(Addr.add _ _).block≠_;rw[add_block];exact hn106_0)|exact hn106_0) (.int .i64 ((rd_T169 l0_1 x4_2).f0))).trans hx106_0;replace hx106_1:=(cell_far (p:=⟨gb104,0,none⟩) (by first|(rw[add_block];exact hn106_0)|(show(Addr.add _ _).block≠_;rw[add_block];exact hn106_0)|exact hn106_0) (.int .i64 ((rd_T169 l0_1 x4_2).f0))).trans hx106_1;replace hx106_2:=(cell_far (p:=⟨gb104,0,none⟩) (by first|(rw[add_block];exact hn106_0)|(show(Addr.add _ _).block≠_;rw[add_block];exact hn106_0)|exact hn106_0) (.int .i64 ((rd_T169 l0_1 x4_2).f0))).trans hx106_2;replace hx106_0:=(cell_far (p:=⟨gb104,1,none⟩) (by first|(rw[add_block];exact hn106_1)|(show(Addr.add _ _).block≠_;rw[add_block];exact hn106_1)|exact hn106_1) (.int .i64 ((rd_T169 l0_1 x4_2).f1))).trans hx106_0;replace hx106_1:=(cell_far (p:=⟨gb104,1,none⟩) (by first|(rw[add_block];exact hn106_1)|(show(Addr.add _ _).block≠_;rw[add_block];exact hn106_1)|exact hn106_1) (.int .i64 ((rd_T169 l0_1 x4_2).f1))).trans hx106_1;replace hx106_2:=(cell_far (p:=⟨gb104,1,none⟩) (by first|(rw[add_block];exact hn106_1)|(show(Addr.add _ _).block≠_;rw[add_block];exact hn106_1)|exact hn106_1) (.int .i64 ((rd_T169 l0_1 x4_2).f1))).trans hx106_2;replace hx106_0:=(cell_far (p:=⟨gb104,2,none⟩) (by first|(rw[add_block];exact hn106_2)|(show(Addr.add _ _).block≠_;rw[add_block];exact hn106_2)|exact hn106_2) (.string ((rd_T169 l0_1 x4_2).f2))).trans hx106_0;replace hx106_1:=(cell_far (p:=⟨gb104,2,none⟩) (by first|(rw[add_block];exact hn106_2)|(show(Addr.add _ _).block≠_;rw[add_block];exact hn106_2)|exact hn106_2) (.string ((rd_T169 l0_1 x4_2).f2))).trans hx106_1;replace hx106_2:=(cell_far (p:=⟨gb104,2,none⟩) (by first|(rw[add_block];exact hn106_2)|(show(Addr.add _ _).block≠_;rw[add_block];exact hn106_2)|exact hn106_2) (.string ((rd_T169 l0_1 x4_2).f2))).trans hx106_2;(try have hy106_0:=fun(n_:Nat)=> (show(((((w39.drewN n_).setCell ⟨gb104,0,none⟩ (.int .i64 ((rd_T169 l0_1 x4_2).f0))).setCell ⟨gb104,1,none⟩ (.int .i64 ((rd_T169 l0_1 x4_2).f1))).setCell ⟨gb104,2,none⟩ (.string ((rd_T169 l0_1 x4_2).f2)))).cell? _=some _ from hx106_0));(try have hy106_1:=fun(n_:Nat)=> (show(((((w39.drewN n_).setCell ⟨gb104,0,none⟩ (.int .i64 ((rd_T169 l0_1 x4_2).f0))).setCell ⟨gb104,1,none⟩ (.int .i64 ((rd_T169 l0_1 x4_2).f1))).setCell ⟨gb104,2,none⟩ (.string ((rd_T169 l0_1 x4_2).f2)))).cell? _=some _ from hx106_1));(try have hy106_2:=fun(n_:Nat)=> (show(((((w39.drewN n_).setCell ⟨gb104,0,none⟩ (.int .i64 ((rd_T169 l0_1 x4_2).f0))).setCell ⟨gb104,1,none⟩ (.int .i64 ((rd_T169 l0_1 x4_2).f1))).setCell ⟨gb104,2,none⟩ (.string ((rd_T169 l0_1 x4_2).f2)))).cell? _=some _ from hx106_2));clear hn106_0 hn106_1 hn106_2;replace p106:=eq_true p106;replace q106:=eq_true q106))
            repeat(go_quiet (first|((with_reducible refine gate_dst (N:=5) rfl ?_);(try(refine gate_guard (by rfl) ?_;dsimp only));refine box_event qr (N:=5) qr (cs:= #[.int .i64 0,.int .i64 0,.string (⟨#[]⟩:ByteArray)]) (t:=169) qg ?_;intro gb104 hg w39 hbox hb;have BK104:=zA (hbox);have GW104:=zA ((qS:w.heap.size≤gb104));have GE104:=zA ((qS:w.heap.size≤gb104));replace HB:=zA (zV qB hb);have NB101_104:=zA ((by rw[hg];exact zLq (qL BK101.out):gb101≠gb104));have NB104_101:=zA ((by rw[hg];exact zMq (qL BK101.out):gb104≠gb101));replace BK101:=zA (qX BK101.out hb);clear hb hbox hg;have hnb40:=NB104_101.out;have hnc40:=NB101_104.out;obtain⟨hcz41_0,hcz41_1,hcz41_2,hfz41_0,hfz41_1,hfz41_2⟩:=qc3f BK104.out;obtain⟨hcz42_0,hcz42_1,hfz42_0,hfz42_1⟩:=qc2f BK101.out;have p105:0≤((ji33):Int):=qO_;have q105:(ji33) < (l0_1.length:Int):=qO_;obtain⟨ad105,e105,hx105_0,hx105_1,hx105_2⟩:=at_T169 HR0_1.out (ji33) p105 q105;obtain rfl:ad103=ad105:=(by injection e105);have hn105_0:ad103.block≠gb104:=zLq (Nat.lt_of_lt_of_le (by have:=zCq _ _ hx105_0;first|rwa [add_block] at this|exact this) GW104.out);have hn105_1:ad103.block≠gb104:=zLq (Nat.lt_of_lt_of_le (by have:=zCq _ _ hx105_0;first|rwa [add_block] at this|exact this) GW104.out);have hn105_2:ad103.block≠gb104:=zLq (Nat.lt_of_lt_of_le (by have:=zCq _ _ hx105_0;first|rwa [add_block] at this|exact this) GW104.out);replace hx105_0:=qU_ hx105_0;replace hx105_1:=qU_ hx105_1;replace hx105_2:=qU_ hx105_2;replace hx105_0:=(cell_far (p:=⟨gb104,0,none⟩) (by first|(rw[add_block];exact hn105_0)|(show(Addr.add _ _).block≠_;rw[add_block];exact hn105_0)|exact hn105_0) (.int .i64 ((rd_T169 l0_1 x4_2).f0))).trans hx105_0;replace hx105_1:=(cell_far (p:=⟨gb104,0,none⟩) (by first|(rw[add_block];exact hn105_0)|(show(Addr.add _ _).block≠_;rw[add_block];exact hn105_0)|exact hn105_0) (.int .i64 ((rd_T169 l0_1 x4_2).f0))).trans hx105_1;replace hx105_2:=(cell_far (p:=⟨gb104,0,none⟩) (by first|(rw[add_block];exact hn105_0)|(show(Addr.add _ _).block≠_;rw[add_block];exact hn105_0)|exact hn105_0) (.int .i64 ((rd_T169 l0_1 x4_2).f0))).trans hx105_2;replace hx105_0:=(cell_far (p:=⟨gb104,1,none⟩) (by first|(rw[add_block];exact hn105_1)|(show(Addr.add _ _).block≠_;rw[add_block];exact hn105_1)|exact hn105_1) (.int .i64 ((rd_T169 l0_1 x4_2).f1))).trans hx105_0;replace hx105_1:=(cell_far (p:=⟨gb104,1,none⟩) (by first|(rw[add_block];exact hn105_1)|(show(Addr.add _ _).block≠_;rw[add_block];exact hn105_1)|exact hn105_1) (.int .i64 ((rd_T169 l0_1 x4_2).f1))).trans hx105_1;replace hx105_2:=(cell_far (p:=⟨gb104,1,none⟩) (by first|(rw[add_block];exact hn105_1)|(show(Addr.add _ _).block≠_;rw[add_block];exact hn105_1)|exact hn105_1) (.int .i64 ((rd_T169 l0_1 x4_2).f1))).trans hx105_2;replace hx105_0:=(cell_far (p:=⟨gb104,2,none⟩) (by first|(rw[add_block];exact hn105_2)|(show(Addr.add _ _).block≠_;rw[add_block];exact hn105_2)|exact hn105_2) (.string ((rd_T169 l0_1 x4_2).f2))).trans hx105_0;replace hx105_1:=(cell_far (p:=⟨gb104,2,none⟩) (by first|(rw[add_block];exact hn105_2)|(show(Addr.add _ _).block≠_;rw[add_block];exact hn105_2)|exact hn105_2) (.string ((rd_T169 l0_1 x4_2).f2))).trans hx105_1;replace hx105_2:=(cell_far (p:=⟨gb104,2,none⟩) (by first|(rw[add_block];exact hn105_2)|(show(Addr.add _ _).block≠_;rw[add_block];exact hn105_2)|exact hn105_2) (.string ((rd_T169 l0_1 x4_2).f2))).trans hx105_2;(try have hy105_0:=fun(n_:Nat)=> (show(((((w39.drewN n_).setCell ⟨gb104,0,none⟩ (.int .i64 ((rd_T169 l0_1 x4_2).f0))).setCell ⟨gb104,1,none⟩ (.int .i64 ((rd_T169 l0_1 x4_2).f1))).setCell ⟨gb104,2,none⟩ (.string ((rd_T169 l0_1 x4_2).f2)))).cell? _=some _ from hx105_0));(try have hy105_1:=fun(n_:Nat)=> (show(((((w39.drewN n_).setCell ⟨gb104,0,none⟩ (.int .i64 ((rd_T169 l0_1 x4_2).f0))).setCell ⟨gb104,1,none⟩ (.int .i64 ((rd_T169 l0_1 x4_2).f1))).setCell ⟨gb104,2,none⟩ (.string ((rd_T169 l0_1 x4_2).f2)))).cell? _=some _ from hx105_1));(try have hy105_2:=fun(n_:Nat)=> (show(((((w39.drewN n_).setCell ⟨gb104,0,none⟩ (.int .i64 ((rd_T169 l0_1 x4_2).f0))).setCell ⟨gb104,1,none⟩ (.int .i64 ((rd_T169 l0_1 x4_2).f1))).setCell ⟨gb104,2,none⟩ (.string ((rd_T169 l0_1 x4_2).f2)))).cell? _=some _ from hx105_2));clear hn105_0 hn105_1 hn105_2;replace p105:=eq_true p105;replace q105:=eq_true q105;have p106:0≤((ji33):Int):=qO_;have q106:(ji33) < (l0_1.length:Int):=qO_;obtain⟨ad106,e106,hx106_0,hx106_1,hx106_2⟩:=at_T169 HR0_1.out (ji33) p106 q106;obtain rfl:ad103=ad106:=(by injection e106);have hn106_0:ad103.block≠gb104:=zLq (Nat.lt_of_lt_of_le (by have:=zCq _ _ hx106_0;first|rwa [add_block] at this|exact this) GW104.out);have hn106_1:ad103.block≠gb104:=zLq (Nat.lt_of_lt_of_le (by have:=zCq _ _ hx106_0;first|rwa [add_block] at this|exact this) GW104.out);have hn106_2:ad103.block≠gb104:=zLq (Nat.lt_of_lt_of_le (by have:=zCq _ _ hx106_0;first|rwa [add_block] at this|exact this) GW104.out);replace hx106_0:=qU_ hx106_0;replace hx106_1:=qU_ hx106_1;replace hx106_2:=qU_ hx106_2;replace hx106_0:=(cell_far (p:=⟨gb104,0,none⟩) (by first|(rw[add_block];exact hn106_0)|(show(Addr.add _ _).block≠_;rw[add_block];exact hn106_0)|exact hn106_0) (.int .i64 ((rd_T169 l0_1 x4_2).f0))).trans hx106_0;replace hx106_1:=(cell_far (p:=⟨gb104,0,none⟩) (by first|(rw[add_block];exact hn106_0)|(show(Addr.add _ _).block≠_;rw[add_block];exact hn106_0)|exact hn106_0) (.int .i64 ((rd_T169 l0_1 x4_2).f0))).trans hx106_1;replace hx106_2:=(cell_far (p:=⟨gb104,0,none⟩) (by first|(rw[add_block];exact hn106_0)|(show(Addr.add _ _).block≠_;rw[add_block];exact hn106_0)|exact hn106_0) (.int .i64 ((rd_T169 l0_1 x4_2).f0))).trans hx106_2;replace hx106_0:=(cell_far (p:=⟨gb104,1,none⟩) (by first|(rw[add_block];exact hn106_1)|(show(Addr.add _ _).block≠_;rw[add_block];exact hn106_1)|exact hn106_1) (.int .i64 ((rd_T169 l0_1 x4_2).f1))).trans hx106_0;replace hx106_1:=(cell_far (p:=⟨gb104,1,none⟩) (by first|(rw[add_block];exact hn106_1)|(show(Addr.add _ _).block≠_;rw[add_block];exact hn106_1)|exact hn106_1) (.int .i64 ((rd_T169 l0_1 x4_2).f1))).trans hx106_1;replace hx106_2:=(cell_far (p:=⟨gb104,1,none⟩) (by first|(rw[add_block];exact hn106_1)|(show(Addr.add _ _).block≠_;rw[add_block];exact hn106_1)|exact hn106_1) (.int .i64 ((rd_T169 l0_1 x4_2).f1))).trans hx106_2;replace hx106_0:=(cell_far (p:=⟨gb104,2,none⟩) (by first|(rw[add_block];exact hn106_2)|(show(Addr.add _ _).block≠_;rw[add_block];exact hn106_2)|exact hn106_2) (.string ((rd_T169 l0_1 x4_2).f2))).trans hx106_0;replace hx106_1:=(cell_far (p:=⟨gb104,2,none⟩) (by first|(rw[add_block];exact hn106_2)|(show(Addr.add _ _).block≠_;rw[add_block];exact hn106_2)|exact hn106_2) (.string ((rd_T169 l0_1 x4_2).f2))).trans hx106_1;replace hx106_2:=(cell_far (p:=⟨gb104,2,none⟩) (by first|(rw[add_block];exact hn106_2)|(show(Addr.add _ _).block≠_;rw[add_block];exact hn106_2)|exact hn106_2) (.string ((rd_T169 l0_1 x4_2).f2))).trans hx106_2;(try have hy106_0:=fun(n_:Nat)=> (show(((((w39.drewN n_).setCell ⟨gb104,0,none⟩ (.int .i64 ((rd_T169 l0_1 x4_2).f0))).setCell ⟨gb104,1,none⟩ (.int .i64 ((rd_T169 l0_1 x4_2).f1))).setCell ⟨gb104,2,none⟩ (.string ((rd_T169 l0_1 x4_2).f2)))).cell? _=some _ from hx106_0));(try have hy106_1:=fun(n_:Nat)=> (show(((((w39.drewN n_).setCell ⟨gb104,0,none⟩ (.int .i64 ((rd_T169 l0_1 x4_2).f0))).setCell ⟨gb104,1,none⟩ (.int .i64 ((rd_T169 l0_1 x4_2).f1))).setCell ⟨gb104,2,none⟩ (.string ((rd_T169 l0_1 x4_2).f2)))).cell? _=some _ from hx106_1));(try have hy106_2:=fun(n_:Nat)=> (show(((((w39.drewN n_).setCell ⟨gb104,0,none⟩ (.int .i64 ((rd_T169 l0_1 x4_2).f0))).setCell ⟨gb104,1,none⟩ (.int .i64 ((rd_T169 l0_1 x4_2).f1))).setCell ⟨gb104,2,none⟩ (.string ((rd_T169 l0_1 x4_2).f2)))).cell? _=some _ from hx106_2));clear hn106_0 hn106_1 hn106_2;replace p106:=eq_true p106;replace q106:=eq_true q106));try go_wp2_with (first|((with_reducible refine gate_dst (N:=5) rfl ?_);(try(refine gate_guard (by rfl) ?_;dsimp only));refine box_event qr (N:=5) qr (cs:= #[.int .i64 0,.int .i64 0,.string (⟨#[]⟩:ByteArray)]) (t:=169) qg ?_;intro gb104 hg w39 hbox hb;have BK104:=zA (hbox);have GW104:=zA ((qS:w.heap.size≤gb104));have GE104:=zA ((qS:w.heap.size≤gb104));replace HB:=zA (zV qB hb);have NB101_104:=zA ((by rw[hg];exact zLq (qL BK101.out):gb101≠gb104));have NB104_101:=zA ((by rw[hg];exact zMq (qL BK101.out):gb104≠gb101));replace BK101:=zA (qX BK101.out hb);clear hb hbox hg;have hnb40:=NB104_101.out;have hnc40:=NB101_104.out;obtain⟨hcz41_0,hcz41_1,hcz41_2,hfz41_0,hfz41_1,hfz41_2⟩:=qc3f BK104.out;obtain⟨hcz42_0,hcz42_1,hfz42_0,hfz42_1⟩:=qc2f BK101.out;have p105:0≤((ji33):Int):=qO_;have q105:(ji33) < (l0_1.length:Int):=qO_;obtain⟨ad105,e105,hx105_0,hx105_1,hx105_2⟩:=at_T169 HR0_1.out (ji33) p105 q105;obtain rfl:ad103=ad105:=(by injection e105);have hn105_0:ad103.block≠gb104:=zLq (Nat.lt_of_lt_of_le (by have:=zCq _ _ hx105_0;first|rwa [add_block] at this|exact this) GW104.out);have hn105_1:ad103.block≠gb104:=zLq (Nat.lt_of_lt_of_le (by have:=zCq _ _ hx105_0;first|rwa [add_block] at this|exact this) GW104.out);have hn105_2:ad103.block≠gb104:=zLq (Nat.lt_of_lt_of_le (by have:=zCq _ _ hx105_0;first|rwa [add_block] at this|exact this) GW104.out);replace hx105_0:=qU_ hx105_0;replace hx105_1:=qU_ hx105_1;replace hx105_2:=qU_ hx105_2;replace hx105_0:=(cell_far (p:=⟨gb104,0,none⟩) (by first|(rw[add_block];exact hn105_0)|(show(Addr.add _ _).block≠_;rw[add_block];exact hn105_0)|exact hn105_0) (.int .i64 ((rd_T169 l0_1 x4_2).f0))).trans hx105_0;replace hx105_1:=(cell_far (p:=⟨gb104,0,none⟩) (by first|(rw[add_block];exact hn105_0)|(show(Addr.add _ _).block≠_;rw[add_block];exact hn105_0)|exact hn105_0) (.int .i64 ((rd_T169 l0_1 x4_2).f0))).trans hx105_1;replace hx105_2:=(cell_far (p:=⟨gb104,0,none⟩) (by first|(rw[add_block];exact hn105_0)|(show(Addr.add _ _).block≠_;rw[add_block];exact hn105_0)|exact hn105_0) (.int .i64 ((rd_T169 l0_1 x4_2).f0))).trans hx105_2;replace hx105_0:=(cell_far (p:=⟨gb104,1,none⟩) (by first|(rw[add_block];exact hn105_1)|(show(Addr.add _ _).block≠_;rw[add_block];exact hn105_1)|exact hn105_1) (.int .i64 ((rd_T169 l0_1 x4_2).f1))).trans hx105_0;replace hx105_1:=(cell_far (p:=⟨gb104,1,none⟩) (by first|(rw[add_block];exact hn105_1)|(show(Addr.add _ _).block≠_;rw[add_block];exact hn105_1)|exact hn105_1) (.int .i64 ((rd_T169 l0_1 x4_2).f1))).trans hx105_1;replace hx105_2:=(cell_far (p:=⟨gb104,1,none⟩) (by first|(rw[add_block];exact hn105_1)|(show(Addr.add _ _).block≠_;rw[add_block];exact hn105_1)|exact hn105_1) (.int .i64 ((rd_T169 l0_1 x4_2).f1))).trans hx105_2;replace hx105_0:=(cell_far (p:=⟨gb104,2,none⟩) (by first|(rw[add_block];exact hn105_2)|(show(Addr.add _ _).block≠_;rw[add_block];exact hn105_2)|exact hn105_2) (.string ((rd_T169 l0_1 x4_2).f2))).trans hx105_0;replace hx105_1:=(cell_far (p:=⟨gb104,2,none⟩) (by first|(rw[add_block];exact hn105_2)|(show(Addr.add _ _).block≠_;rw[add_block];exact hn105_2)|exact hn105_2) (.string ((rd_T169 l0_1 x4_2).f2))).trans hx105_1;replace hx105_2:=(cell_far (p:=⟨gb104,2,none⟩) (by first|(rw[add_block];exact hn105_2)|(show(Addr.add _ _).block≠_;rw[add_block];exact hn105_2)|exact hn105_2) (.string ((rd_T169 l0_1 x4_2).f2))).trans hx105_2;(try have hy105_0:=fun(n_:Nat)=> (show(((((w39.drewN n_).setCell ⟨gb104,0,none⟩ (.int .i64 ((rd_T169 l0_1 x4_2).f0))).setCell ⟨gb104,1,none⟩ (.int .i64 ((rd_T169 l0_1 x4_2).f1))).setCell ⟨gb104,2,none⟩ (.string ((rd_T169 l0_1 x4_2).f2)))).cell? _=some _ from hx105_0));(try have hy105_1:=fun(n_:Nat)=> (show(((((w39.drewN n_).setCell ⟨gb104,0,none⟩ (.int .i64 ((rd_T169 l0_1 x4_2).f0))).setCell ⟨gb104,1,none⟩ (.int .i64 ((rd_T169 l0_1 x4_2).f1))).setCell ⟨gb104,2,none⟩ (.string ((rd_T169 l0_1 x4_2).f2)))).cell? _=some _ from hx105_1));(try have hy105_2:=fun(n_:Nat)=> (show(((((w39.drewN n_).setCell ⟨gb104,0,none⟩ (.int .i64 ((rd_T169 l0_1 x4_2).f0))).setCell ⟨gb104,1,none⟩ (.int .i64 ((rd_T169 l0_1 x4_2).f1))).setCell ⟨gb104,2,none⟩ (.string ((rd_T169 l0_1 x4_2).f2)))).cell? _=some _ from hx105_2));clear hn105_0 hn105_1 hn105_2;replace p105:=eq_true p105;replace q105:=eq_true q105;have p106:0≤((ji33):Int):=qO_;have q106:(ji33) < (l0_1.length:Int):=qO_;obtain⟨ad106,e106,hx106_0,hx106_1,hx106_2⟩:=at_T169 HR0_1.out (ji33) p106 q106;obtain rfl:ad103=ad106:=(by injection e106);have hn106_0:ad103.block≠gb104:=zLq (Nat.lt_of_lt_of_le (by have:=zCq _ _ hx106_0;first|rwa [add_block] at this|exact this) GW104.out);have hn106_1:ad103.block≠gb104:=zLq (Nat.lt_of_lt_of_le (by have:=zCq _ _ hx106_0;first|rwa [add_block] at this|exact this) GW104.out);have hn106_2:ad103.block≠gb104:=zLq (Nat.lt_of_lt_of_le (by have:=zCq _ _ hx106_0;first|rwa [add_block] at this|exact this) GW104.out);replace hx106_0:=qU_ hx106_0;replace hx106_1:=qU_ hx106_1;replace hx106_2:=qU_ hx106_2;replace hx106_0:=(cell_far (p:=⟨gb104,0,none⟩) (by first|(rw[add_block];exact hn106_0)|(show(Addr.add _ _).block≠_;rw[add_block];exact hn106_0)|exact hn106_0) (.int .i64 ((rd_T169 l0_1 x4_2).f0))).trans hx106_0;replace hx106_1:=(cell_far (p:=⟨gb104,0,none⟩) (by first|(rw[add_block];exact hn106_0)|(show(Addr.add _ _).block≠_;rw[add_block];exact hn106_0)|exact hn106_0) (.int .i64 ((rd_T169 l0_1 x4_2).f0))).trans hx106_1;replace hx106_2:=(cell_far (p:=⟨gb104,0,none⟩) (by first|(rw[add_block];exact hn106_0)|(show(Addr.add _ _).block≠_;rw[add_block];exact hn106_0)|exact hn106_0) (.int .i64 ((rd_T169 l0_1 x4_2).f0))).trans hx106_2;replace hx106_0:=(cell_far (p:=⟨gb104,1,none⟩) (by first|(rw[add_block];exact hn106_1)|(show(Addr.add _ _).block≠_;rw[add_block];exact hn106_1)|exact hn106_1) (.int .i64 ((rd_T169 l0_1 x4_2).f1))).trans hx106_0;replace hx106_1:=(cell_far (p:=⟨gb104,1,none⟩) (by first|(rw[add_block];exact hn106_1)|(show(Addr.add _ _).block≠_;rw[add_block];exact hn106_1)|exact hn106_1) (.int .i64 ((rd_T169 l0_1 x4_2).f1))).trans hx106_1;replace hx106_2:=(cell_far (p:=⟨gb104,1,none⟩) (by first|(rw[add_block];exact hn106_1)|(show(Addr.add _ _).block≠_;rw[add_block];exact hn106_1)|exact hn106_1) (.int .i64 ((rd_T169 l0_1 x4_2).f1))).trans hx106_2;replace hx106_0:=(cell_far (p:=⟨gb104,2,none⟩) (by first|(rw[add_block];exact hn106_2)|(show(Addr.add _ _).block≠_;rw[add_block];exact hn106_2)|exact hn106_2) (.string ((rd_T169 l0_1 x4_2).f2))).trans hx106_0;replace hx106_1:=(cell_far (p:=⟨gb104,2,none⟩) (by first|(rw[add_block];exact hn106_2)|(show(Addr.add _ _).block≠_;rw[add_block];exact hn106_2)|exact hn106_2) (.string ((rd_T169 l0_1 x4_2).f2))).trans hx106_1;replace hx106_2:=(cell_far (p:=⟨gb104,2,none⟩) (by first|(rw[add_block];exact hn106_2)|(show(Addr.add _ _).block≠_;rw[add_block];exact hn106_2)|exact hn106_2) (.string ((rd_T169 l0_1 x4_2).f2))).trans hx106_2;(try have hy106_0:=fun(n_:Nat)=> (show(((((w39.drewN n_).setCell ⟨gb104,0,none⟩ (.int .i64 ((rd_T169 l0_1 x4_2).f0))).setCell ⟨gb104,1,none⟩ (.int .i64 ((rd_T169 l0_1 x4_2).f1))).setCell ⟨gb104,2,none⟩ (.string ((rd_T169 l0_1 x4_2).f2)))).cell? _=some _ from hx106_0));(try have hy106_1:=fun(n_:Nat)=> (show(((((w39.drewN n_).setCell ⟨gb104,0,none⟩ (.int .i64 ((rd_T169 l0_1 x4_2).f0))).setCell ⟨gb104,1,none⟩ (.int .i64 ((rd_T169 l0_1 x4_2).f1))).setCell ⟨gb104,2,none⟩ (.string ((rd_T169 l0_1 x4_2).f2)))).cell? _=some _ from hx106_1));(try have hy106_2:=fun(n_:Nat)=> (show(((((w39.drewN n_).setCell ⟨gb104,0,none⟩ (.int .i64 ((rd_T169 l0_1 x4_2).f0))).setCell ⟨gb104,1,none⟩ (.int .i64 ((rd_T169 l0_1 x4_2).f1))).setCell ⟨gb104,2,none⟩ (.string ((rd_T169 l0_1 x4_2).f2)))).cell? _=some _ from hx106_2));clear hn106_0 hn106_1 hn106_2;replace p106:=eq_true p106;replace q106:=eq_true q106)))
            go_ret;exact⟨by first|rfl|(simp[errW_none,errW_some] <;> rfl)|(simp only[←hji33];first|rfl|(simp[errW_none,errW_some] <;> rfl))|(simp[*,errW_none,errW_some] <;> rfl),qB⟩
           rw[if_neg c37] at H;have c37b0:decide (((rd_T169 l0_1 x4_2).f1)≤((rd_T169 l0_1 (ji33)).f1))=false:=zGq c37;clear c37;have H':=zA H;clear H;obtain⟨_,_,_,_⟩:=qc2f BK101.out;have p103:0≤(x4_2:Int):=qO_;have q103:x4_2 < (l0_1.length:Int):=qO_;obtain⟨ad103,e103,hx103_0,hx103_1,hx103_2⟩:=at_T169 HR0_1.out x4_2 p103 q103;cases e103
           replace hx103_0:=qU_ hx103_0;replace hx103_1:=qU_ hx103_1;replace hx103_2:=qU_ hx103_2;replace p103:=eq_true p103;replace q103:=eq_true q103;go_wp2_with (first|((with_reducible refine gate_dst (N:=5) rfl ?_);(try(refine gate_guard (by rfl) ?_;dsimp only));refine box_event qr (N:=5) qr (cs:= #[.int .i64 0,.int .i64 0,.string (⟨#[]⟩:ByteArray)]) (t:=169) qg ?_;intro gb104 hg w44 hbox hb;have BK104:=zA (hbox);have GW104:=zA ((qS:w.heap.size≤gb104));have GE104:=zA ((qS:w.heap.size≤gb104));replace HB:=zA (zV qB hb);have NB101_104:=zA ((by rw[hg];exact zLq (qL BK101.out):gb101≠gb104));have NB104_101:=zA ((by rw[hg];exact zMq (qL BK101.out):gb104≠gb101));replace BK101:=zA (qX BK101.out hb);clear hb hbox hg;have hnb45:=NB104_101.out;have hnc45:=NB101_104.out;obtain⟨hcz46_0,hcz46_1,hcz46_2,hfz46_0,hfz46_1,hfz46_2⟩:=qc3f BK104.out;obtain⟨hcz47_0,hcz47_1,hfz47_0,hfz47_1⟩:=qc2f BK101.out;have p105:0≤((ji33):Int):=qO_;have q105:(ji33) < (l0_1.length:Int):=qO_;obtain⟨ad105,e105,hx105_0,hx105_1,hx105_2⟩:=at_T169 HR0_1.out (ji33) p105 q105;obtain rfl:ad103=ad105:=(by injection e105);have hn105_0:ad103.block≠gb104:=zLq (Nat.lt_of_lt_of_le (by have:=zCq _ _ hx105_0;first|rwa [add_block] at this|exact this) GW104.out);have hn105_1:ad103.block≠gb104:=zLq (Nat.lt_of_lt_of_le (by have:=zCq _ _ hx105_0;first|rwa [add_block] at this|exact this) GW104.out);have hn105_2:ad103.block≠gb104:=zLq (Nat.lt_of_lt_of_le (by have:=zCq _ _ hx105_0;first|rwa [add_block] at this|exact this) GW104.out);replace hx105_0:=qU_ hx105_0;replace hx105_1:=qU_ hx105_1;replace hx105_2:=qU_ hx105_2;replace hx105_0:=(cell_far (p:=⟨gb104,0,none⟩) (by first|(rw[add_block];exact hn105_0)|(show(Addr.add _ _).block≠_;rw[add_block];exact hn105_0)|exact hn105_0) (.int .i64 ((rd_T169 l0_1 x4_2).f0))).trans hx105_0;replace hx105_1:=(cell_far (p:=⟨gb104,0,none⟩) (by first|(rw[add_block];exact hn105_0)|(show(Addr.add _ _).block≠_;rw[add_block];exact hn105_0)|exact hn105_0) (.int .i64 ((rd_T169 l0_1 x4_2).f0))).trans hx105_1;replace hx105_2:=(cell_far (p:=⟨gb104,0,none⟩) (by first|(rw[add_block];exact hn105_0)|(show(Addr.add _ _).block≠_;rw[add_block];exact hn105_0)|exact hn105_0) (.int .i64 ((rd_T169 l0_1 x4_2).f0))).trans hx105_2;replace hx105_0:=(cell_far (p:=⟨gb104,1,none⟩) (by first|(rw[add_block];exact hn105_1)|(show(Addr.add _ _).block≠_;rw[add_block];exact hn105_1)|exact hn105_1) (.int .i64 ((rd_T169 l0_1 x4_2).f1))).trans hx105_0;replace hx105_1:=(cell_far (p:=⟨gb104,1,none⟩) (by first|(rw[add_block];exact hn105_1)|(show(Addr.add _ _).block≠_;rw[add_block];exact hn105_1)|exact hn105_1) (.int .i64 ((rd_T169 l0_1 x4_2).f1))).trans hx105_1;replace hx105_2:=(cell_far (p:=⟨gb104,1,none⟩) (by first|(rw[add_block];exact hn105_1)|(show(Addr.add _ _).block≠_;rw[add_block];exact hn105_1)|exact hn105_1) (.int .i64 ((rd_T169 l0_1 x4_2).f1))).trans hx105_2;replace hx105_0:=(cell_far (p:=⟨gb104,2,none⟩) (by first|(rw[add_block];exact hn105_2)|(show(Addr.add _ _).block≠_;rw[add_block];exact hn105_2)|exact hn105_2) (.string ((rd_T169 l0_1 x4_2).f2))).trans hx105_0;replace hx105_1:=(cell_far (p:=⟨gb104,2,none⟩) (by first|(rw[add_block];exact hn105_2)|(show(Addr.add _ _).block≠_;rw[add_block];exact hn105_2)|exact hn105_2) (.string ((rd_T169 l0_1 x4_2).f2))).trans hx105_1;replace hx105_2:=(cell_far (p:=⟨gb104,2,none⟩) (by first|(rw[add_block];exact hn105_2)|(show(Addr.add _ _).block≠_;rw[add_block];exact hn105_2)|exact hn105_2) (.string ((rd_T169 l0_1 x4_2).f2))).trans hx105_2;(try have hy105_0:=fun(n_:Nat)=> (show(((((w44.drewN n_).setCell ⟨gb104,0,none⟩ (.int .i64 ((rd_T169 l0_1 x4_2).f0))).setCell ⟨gb104,1,none⟩ (.int .i64 ((rd_T169 l0_1 x4_2).f1))).setCell ⟨gb104,2,none⟩ (.string ((rd_T169 l0_1 x4_2).f2)))).cell? _=some _ from hx105_0));(try have hy105_1:=fun(n_:Nat)=> (show(((((w44.drewN n_).setCell ⟨gb104,0,none⟩ (.int .i64 ((rd_T169 l0_1 x4_2).f0))).setCell ⟨gb104,1,none⟩ (.int .i64 ((rd_T169 l0_1 x4_2).f1))).setCell ⟨gb104,2,none⟩ (.string ((rd_T169 l0_1 x4_2).f2)))).cell? _=some _ from hx105_1));(try have hy105_2:=fun(n_:Nat)=> (show(((((w44.drewN n_).setCell ⟨gb104,0,none⟩ (.int .i64 ((rd_T169 l0_1 x4_2).f0))).setCell ⟨gb104,1,none⟩ (.int .i64 ((rd_T169 l0_1 x4_2).f1))).setCell ⟨gb104,2,none⟩ (.string ((rd_T169 l0_1 x4_2).f2)))).cell? _=some _ from hx105_2));clear hn105_0 hn105_1 hn105_2;replace p105:=eq_true p105;replace q105:=eq_true q105;have p106:0≤((ji33):Int):=qO_;have q106:(ji33) < (l0_1.length:Int):=qO_;obtain⟨ad106,e106,hx106_0,hx106_1,hx106_2⟩:=at_T169 HR0_1.out (ji33) p106 q106;obtain rfl:ad103=ad106:=(by injection e106);have hn106_0:ad103.block≠gb104:=zLq (Nat.lt_of_lt_of_le (by have:=zCq _ _ hx106_0;first|rwa [add_block] at this|exact this) GW104.out);have hn106_1:ad103.block≠gb104:=zLq (Nat.lt_of_lt_of_le (by have:=zCq _ _ hx106_0;first|rwa [add_block] at this|exact this) GW104.out);have hn106_2:ad103.block≠gb104:=zLq (Nat.lt_of_lt_of_le (by have:=zCq _ _ hx106_0;first|rwa [add_block] at this|exact this) GW104.out);replace hx106_0:=qU_ hx106_0;replace hx106_1:=qU_ hx106_1;replace hx106_2:=qU_ hx106_2;replace hx106_0:=(cell_far (p:=⟨gb104,0,none⟩) (by first|(rw[add_block];exact hn106_0)|(show(Addr.add _ _).block≠_;rw[add_block];exact hn106_0)|exact hn106_0) (.int .i64 ((rd_T169 l0_1 x4_2).f0))).trans hx106_0;replace hx106_1:=(cell_far (p:=⟨gb104,0,none⟩) (by first|(rw[add_block];exact hn106_0)|(show(Addr.add _ _).block≠_;rw[add_block];exact hn106_0)|exact hn106_0) (.int .i64 ((rd_T169 l0_1 x4_2).f0))).trans hx106_1;replace hx106_2:=(cell_far (p:=⟨gb104,0,none⟩) (by first|(rw[add_block];exact hn106_0)|(show(Addr.add _ _).block≠_;rw[add_block];exact hn106_0)|exact hn106_0) (.int .i64 ((rd_T169 l0_1 x4_2).f0))).trans hx106_2;replace hx106_0:=(cell_far (p:=⟨gb104,1,none⟩) (by first|(rw[add_block];exact hn106_1)|(show(Addr.add _ _).block≠_;rw[add_block];exact hn106_1)|exact hn106_1) (.int .i64 ((rd_T169 l0_1 x4_2).f1))).trans hx106_0;replace hx106_1:=(cell_far (p:=⟨gb104,1,none⟩) (by first|(rw[add_block];exact hn106_1)|(show(Addr.add _ _).block≠_;rw[add_block];exact hn106_1)|exact hn106_1) (.int .i64 ((rd_T169 l0_1 x4_2).f1))).trans hx106_1;replace hx106_2:=(cell_far (p:=⟨gb104,1,none⟩) (by first|(rw[add_block];exact hn106_1)|(show(Addr.add _ _).block≠_;rw[add_block];exact hn106_1)|exact hn106_1) (.int .i64 ((rd_T169 l0_1 x4_2).f1))).trans hx106_2;replace hx106_0:=(cell_far (p:=⟨gb104,2,none⟩) (by first|(rw[add_block];exact hn106_2)|(show(Addr.add _ _).block≠_;rw[add_block];exact hn106_2)|exact hn106_2) (.string ((rd_T169 l0_1 x4_2).f2))).trans hx106_0;replace hx106_1:=(cell_far (p:=⟨gb104,2,none⟩) (by first|(rw[add_block];exact hn106_2)|(show(Addr.add _ _).block≠_;rw[add_block];exact hn106_2)|exact hn106_2) (.string ((rd_T169 l0_1 x4_2).f2))).trans hx106_1;replace hx106_2:=(cell_far (p:=⟨gb104,2,none⟩) (by first|(rw[add_block];exact hn106_2)|(show(Addr.add _ _).block≠_;rw[add_block];exact hn106_2)|exact hn106_2) (.string ((rd_T169 l0_1 x4_2).f2))).trans hx106_2;(try have hy106_0:=fun(n_:Nat)=> (show(((((w44.drewN n_).setCell ⟨gb104,0,none⟩ (.int .i64 ((rd_T169 l0_1 x4_2).f0))).setCell ⟨gb104,1,none⟩ (.int .i64 ((rd_T169 l0_1 x4_2).f1))).setCell ⟨gb104,2,none⟩ (.string ((rd_T169 l0_1 x4_2).f2)))).cell? _=some _ from hx106_0));(try have hy106_1:=fun(n_:Nat)=> (show(((((w44.drewN n_).setCell ⟨gb104,0,none⟩ (.int .i64 ((rd_T169 l0_1 x4_2).f0))).setCell ⟨gb104,1,none⟩ (.int .i64 ((rd_T169 l0_1 x4_2).f1))).setCell ⟨gb104,2,none⟩ (.string ((rd_T169 l0_1 x4_2).f2)))).cell? _=some _ from hx106_1));(try have hy106_2:=fun(n_:Nat)=> (show(((((w44.drewN n_).setCell ⟨gb104,0,none⟩ (.int .i64 ((rd_T169 l0_1 x4_2).f0))).setCell ⟨gb104,1,none⟩ (.int .i64 ((rd_T169 l0_1 x4_2).f1))).setCell ⟨gb104,2,none⟩ (.string ((rd_T169 l0_1 x4_2).f2)))).cell? _=some _ from hx106_2));clear hn106_0 hn106_1 hn106_2;replace p106:=eq_true p106;replace q106:=eq_true q106))
           repeat(go_quiet (first|((with_reducible refine gate_dst (N:=5) rfl ?_);(try(refine gate_guard (by rfl) ?_;dsimp only));refine box_event qr (N:=5) qr (cs:= #[.int .i64 0,.int .i64 0,.string (⟨#[]⟩:ByteArray)]) (t:=169) qg ?_;intro gb104 hg w44 hbox hb;have BK104:=zA (hbox);have GW104:=zA ((qS:w.heap.size≤gb104));have GE104:=zA ((qS:w.heap.size≤gb104));replace HB:=zA (zV qB hb);have NB101_104:=zA ((by rw[hg];exact zLq (qL BK101.out):gb101≠gb104));have NB104_101:=zA ((by rw[hg];exact zMq (qL BK101.out):gb104≠gb101));replace BK101:=zA (qX BK101.out hb);clear hb hbox hg;have hnb45:=NB104_101.out;have hnc45:=NB101_104.out;obtain⟨hcz46_0,hcz46_1,hcz46_2,hfz46_0,hfz46_1,hfz46_2⟩:=qc3f BK104.out;obtain⟨hcz47_0,hcz47_1,hfz47_0,hfz47_1⟩:=qc2f BK101.out;have p105:0≤((ji33):Int):=qO_;have q105:(ji33) < (l0_1.length:Int):=qO_;obtain⟨ad105,e105,hx105_0,hx105_1,hx105_2⟩:=at_T169 HR0_1.out (ji33) p105 q105;obtain rfl:ad103=ad105:=(by injection e105);have hn105_0:ad103.block≠gb104:=zLq (Nat.lt_of_lt_of_le (by have:=zCq _ _ hx105_0;first|rwa [add_block] at this|exact this) GW104.out);have hn105_1:ad103.block≠gb104:=zLq (Nat.lt_of_lt_of_le (by have:=zCq _ _ hx105_0;first|rwa [add_block] at this|exact this) GW104.out);have hn105_2:ad103.block≠gb104:=zLq (Nat.lt_of_lt_of_le (by have:=zCq _ _ hx105_0;first|rwa [add_block] at this|exact this) GW104.out);replace hx105_0:=qU_ hx105_0;replace hx105_1:=qU_ hx105_1;replace hx105_2:=qU_ hx105_2;replace hx105_0:=(cell_far (p:=⟨gb104,0,none⟩) (by first|(rw[add_block];exact hn105_0)|(show(Addr.add _ _).block≠_;rw[add_block];exact hn105_0)|exact hn105_0) (.int .i64 ((rd_T169 l0_1 x4_2).f0))).trans hx105_0;replace hx105_1:=(cell_far (p:=⟨gb104,0,none⟩) (by first|(rw[add_block];exact hn105_0)|(show(Addr.add _ _).block≠_;rw[add_block];exact hn105_0)|exact hn105_0) (.int .i64 ((rd_T169 l0_1 x4_2).f0))).trans hx105_1;replace hx105_2:=(cell_far (p:=⟨gb104,0,none⟩) (by first|(rw[add_block];exact hn105_0)|(show(Addr.add _ _).block≠_;rw[add_block];exact hn105_0)|exact hn105_0) (.int .i64 ((rd_T169 l0_1 x4_2).f0))).trans hx105_2;replace hx105_0:=(cell_far (p:=⟨gb104,1,none⟩) (by first|(rw[add_block];exact hn105_1)|(show(Addr.add _ _).block≠_;rw[add_block];exact hn105_1)|exact hn105_1) (.int .i64 ((rd_T169 l0_1 x4_2).f1))).trans hx105_0;replace hx105_1:=(cell_far (p:=⟨gb104,1,none⟩) (by first|(rw[add_block];exact hn105_1)|(show(Addr.add _ _).block≠_;rw[add_block];exact hn105_1)|exact hn105_1) (.int .i64 ((rd_T169 l0_1 x4_2).f1))).trans hx105_1;replace hx105_2:=(cell_far (p:=⟨gb104,1,none⟩) (by first|(rw[add_block];exact hn105_1)|(show(Addr.add _ _).block≠_;rw[add_block];exact hn105_1)|exact hn105_1) (.int .i64 ((rd_T169 l0_1 x4_2).f1))).trans hx105_2;replace hx105_0:=(cell_far (p:=⟨gb104,2,none⟩) (by first|(rw[add_block];exact hn105_2)|(show(Addr.add _ _).block≠_;rw[add_block];exact hn105_2)|exact hn105_2) (.string ((rd_T169 l0_1 x4_2).f2))).trans hx105_0;replace hx105_1:=(cell_far (p:=⟨gb104,2,none⟩) (by first|(rw[add_block];exact hn105_2)|(show(Addr.add _ _).block≠_;rw[add_block];exact hn105_2)|exact hn105_2) (.string ((rd_T169 l0_1 x4_2).f2))).trans hx105_1;replace hx105_2:=(cell_far (p:=⟨gb104,2,none⟩) (by first|(rw[add_block];exact hn105_2)|(show(Addr.add _ _).block≠_;rw[add_block];exact hn105_2)|exact hn105_2) (.string ((rd_T169 l0_1 x4_2).f2))).trans hx105_2;(try have hy105_0:=fun(n_:Nat)=> (show(((((w44.drewN n_).setCell ⟨gb104,0,none⟩ (.int .i64 ((rd_T169 l0_1 x4_2).f0))).setCell ⟨gb104,1,none⟩ (.int .i64 ((rd_T169 l0_1 x4_2).f1))).setCell ⟨gb104,2,none⟩ (.string ((rd_T169 l0_1 x4_2).f2)))).cell? _=some _ from hx105_0));(try have hy105_1:=fun(n_:Nat)=> (show(((((w44.drewN n_).setCell ⟨gb104,0,none⟩ (.int .i64 ((rd_T169 l0_1 x4_2).f0))).setCell ⟨gb104,1,none⟩ (.int .i64 ((rd_T169 l0_1 x4_2).f1))).setCell ⟨gb104,2,none⟩ (.string ((rd_T169 l0_1 x4_2).f2)))).cell? _=some _ from hx105_1));(try have hy105_2:=fun(n_:Nat)=> (show(((((w44.drewN n_).setCell ⟨gb104,0,none⟩ (.int .i64 ((rd_T169 l0_1 x4_2).f0))).setCell ⟨gb104,1,none⟩ (.int .i64 ((rd_T169 l0_1 x4_2).f1))).setCell ⟨gb104,2,none⟩ (.string ((rd_T169 l0_1 x4_2).f2)))).cell? _=some _ from hx105_2));clear hn105_0 hn105_1 hn105_2;replace p105:=eq_true p105;replace q105:=eq_true q105;have p106:0≤((ji33):Int):=qO_;have q106:(ji33) < (l0_1.length:Int):=qO_;obtain⟨ad106,e106,hx106_0,hx106_1,hx106_2⟩:=at_T169 HR0_1.out (ji33) p106 q106;obtain rfl:ad103=ad106:=(by injection e106);have hn106_0:ad103.block≠gb104:=zLq (Nat.lt_of_lt_of_le (by have:=zCq _ _ hx106_0;first|rwa [add_block] at this|exact this) GW104.out);have hn106_1:ad103.block≠gb104:=zLq (Nat.lt_of_lt_of_le (by have:=zCq _ _ hx106_0;first|rwa [add_block] at this|exact this) GW104.out);have hn106_2:ad103.block≠gb104:=zLq (Nat.lt_of_lt_of_le (by have:=zCq _ _ hx106_0;first|rwa [add_block] at this|exact this) GW104.out);replace hx106_0:=qU_ hx106_0;replace hx106_1:=qU_ hx106_1;replace hx106_2:=qU_ hx106_2;replace hx106_0:=(cell_far (p:=⟨gb104,0,none⟩) (by first|(rw[add_block];exact hn106_0)|(show(Addr.add _ _).block≠_;rw[add_block];exact hn106_0)|exact hn106_0) (.int .i64 ((rd_T169 l0_1 x4_2).f0))).trans hx106_0;replace hx106_1:=(cell_far (p:=⟨gb104,0,none⟩) (by first|(rw[add_block];exact hn106_0)|(show(Addr.add _ _).block≠_;rw[add_block];exact hn106_0)|exact hn106_0) (.int .i64 ((rd_T169 l0_1 x4_2).f0))).trans hx106_1;replace hx106_2:=(cell_far (p:=⟨gb104,0,none⟩) (by first|(rw[add_block];exact hn106_0)|(show(Addr.add _ _).block≠_;rw[add_block];exact hn106_0)|exact hn106_0) (.int .i64 ((rd_T169 l0_1 x4_2).f0))).trans hx106_2;replace hx106_0:=(cell_far (p:=⟨gb104,1,none⟩) (by first|(rw[add_block];exact hn106_1)|(show(Addr.add _ _).block≠_;rw[add_block];exact hn106_1)|exact hn106_1) (.int .i64 ((rd_T169 l0_1 x4_2).f1))).trans hx106_0;replace hx106_1:=(cell_far (p:=⟨gb104,1,none⟩) (by first|(rw[add_block];exact hn106_1)|(show(Addr.add _ _).block≠_;rw[add_block];exact hn106_1)|exact hn106_1) (.int .i64 ((rd_T169 l0_1 x4_2).f1))).trans hx106_1;replace hx106_2:=(cell_far (p:=⟨gb104,1,none⟩) (by first|(rw[add_block];exact hn106_1)|(show(Addr.add _ _).block≠_;rw[add_block];exact hn106_1)|exact hn106_1) (.int .i64 ((rd_T169 l0_1 x4_2).f1))).trans hx106_2;replace hx106_0:=(cell_far (p:=⟨gb104,2,none⟩) (by first|(rw[add_block];exact hn106_2)|(show(Addr.add _ _).block≠_;rw[add_block];exact hn106_2)|exact hn106_2) (.string ((rd_T169 l0_1 x4_2).f2))).trans hx106_0;replace hx106_1:=(cell_far (p:=⟨gb104,2,none⟩) (by first|(rw[add_block];exact hn106_2)|(show(Addr.add _ _).block≠_;rw[add_block];exact hn106_2)|exact hn106_2) (.string ((rd_T169 l0_1 x4_2).f2))).trans hx106_1;replace hx106_2:=(cell_far (p:=⟨gb104,2,none⟩) (by first|(rw[add_block];exact hn106_2)|(show(Addr.add _ _).block≠_;rw[add_block];exact hn106_2)|exact hn106_2) (.string ((rd_T169 l0_1 x4_2).f2))).trans hx106_2;(try have hy106_0:=fun(n_:Nat)=> (show(((((w44.drewN n_).setCell ⟨gb104,0,none⟩ (.int .i64 ((rd_T169 l0_1 x4_2).f0))).setCell ⟨gb104,1,none⟩ (.int .i64 ((rd_T169 l0_1 x4_2).f1))).setCell ⟨gb104,2,none⟩ (.string ((rd_T169 l0_1 x4_2).f2)))).cell? _=some _ from hx106_0));(try have hy106_1:=fun(n_:Nat)=> (show(((((w44.drewN n_).setCell ⟨gb104,0,none⟩ (.int .i64 ((rd_T169 l0_1 x4_2).f0))).setCell ⟨gb104,1,none⟩ (.int .i64 ((rd_T169 l0_1 x4_2).f1))).setCell ⟨gb104,2,none⟩ (.string ((rd_T169 l0_1 x4_2).f2)))).cell? _=some _ from hx106_1));(try have hy106_2:=fun(n_:Nat)=> (show(((((w44.drewN n_).setCell ⟨gb104,0,none⟩ (.int .i64 ((rd_T169 l0_1 x4_2).f0))).setCell ⟨gb104,1,none⟩ (.int .i64 ((rd_T169 l0_1 x4_2).f1))).setCell ⟨gb104,2,none⟩ (.string ((rd_T169 l0_1 x4_2).f2)))).cell? _=some _ from hx106_2));clear hn106_0 hn106_1 hn106_2;replace p106:=eq_true p106;replace q106:=eq_true q106));try go_wp2_with (first|((with_reducible refine gate_dst (N:=5) rfl ?_);(try(refine gate_guard (by rfl) ?_;dsimp only));refine box_event qr (N:=5) qr (cs:= #[.int .i64 0,.int .i64 0,.string (⟨#[]⟩:ByteArray)]) (t:=169) qg ?_;intro gb104 hg w44 hbox hb;have BK104:=zA (hbox);have GW104:=zA ((qS:w.heap.size≤gb104));have GE104:=zA ((qS:w.heap.size≤gb104));replace HB:=zA (zV qB hb);have NB101_104:=zA ((by rw[hg];exact zLq (qL BK101.out):gb101≠gb104));have NB104_101:=zA ((by rw[hg];exact zMq (qL BK101.out):gb104≠gb101));replace BK101:=zA (qX BK101.out hb);clear hb hbox hg;have hnb45:=NB104_101.out;have hnc45:=NB101_104.out;obtain⟨hcz46_0,hcz46_1,hcz46_2,hfz46_0,hfz46_1,hfz46_2⟩:=qc3f BK104.out;obtain⟨hcz47_0,hcz47_1,hfz47_0,hfz47_1⟩:=qc2f BK101.out;have p105:0≤((ji33):Int):=qO_;have q105:(ji33) < (l0_1.length:Int):=qO_;obtain⟨ad105,e105,hx105_0,hx105_1,hx105_2⟩:=at_T169 HR0_1.out (ji33) p105 q105;obtain rfl:ad103=ad105:=(by injection e105);have hn105_0:ad103.block≠gb104:=zLq (Nat.lt_of_lt_of_le (by have:=zCq _ _ hx105_0;first|rwa [add_block] at this|exact this) GW104.out);have hn105_1:ad103.block≠gb104:=zLq (Nat.lt_of_lt_of_le (by have:=zCq _ _ hx105_0;first|rwa [add_block] at this|exact this) GW104.out);have hn105_2:ad103.block≠gb104:=zLq (Nat.lt_of_lt_of_le (by have:=zCq _ _ hx105_0;first|rwa [add_block] at this|exact this) GW104.out);replace hx105_0:=qU_ hx105_0;replace hx105_1:=qU_ hx105_1;replace hx105_2:=qU_ hx105_2;replace hx105_0:=(cell_far (p:=⟨gb104,0,none⟩) (by first|(rw[add_block];exact hn105_0)|(show(Addr.add _ _).block≠_;rw[add_block];exact hn105_0)|exact hn105_0) (.int .i64 ((rd_T169 l0_1 x4_2).f0))).trans hx105_0;replace hx105_1:=(cell_far (p:=⟨gb104,0,none⟩) (by first|(rw[add_block];exact hn105_0)|(show(Addr.add _ _).block≠_;rw[add_block];exact hn105_0)|exact hn105_0) (.int .i64 ((rd_T169 l0_1 x4_2).f0))).trans hx105_1;replace hx105_2:=(cell_far (p:=⟨gb104,0,none⟩) (by first|(rw[add_block];exact hn105_0)|(show(Addr.add _ _).block≠_;rw[add_block];exact hn105_0)|exact hn105_0) (.int .i64 ((rd_T169 l0_1 x4_2).f0))).trans hx105_2;replace hx105_0:=(cell_far (p:=⟨gb104,1,none⟩) (by first|(rw[add_block];exact hn105_1)|(show(Addr.add _ _).block≠_;rw[add_block];exact hn105_1)|exact hn105_1) (.int .i64 ((rd_T169 l0_1 x4_2).f1))).trans hx105_0;replace hx105_1:=(cell_far (p:=⟨gb104,1,none⟩) (by first|(rw[add_block];exact hn105_1)|(show(Addr.add _ _).block≠_;rw[add_block];exact hn105_1)|exact hn105_1) (.int .i64 ((rd_T169 l0_1 x4_2).f1))).trans hx105_1;replace hx105_2:=(cell_far (p:=⟨gb104,1,none⟩) (by first|(rw[add_block];exact hn105_1)|(show(Addr.add _ _).block≠_;rw[add_block];exact hn105_1)|exact hn105_1) (.int .i64 ((rd_T169 l0_1 x4_2).f1))).trans hx105_2;replace hx105_0:=(cell_far (p:=⟨gb104,2,none⟩) (by first|(rw[add_block];exact hn105_2)|(show(Addr.add _ _).block≠_;rw[add_block];exact hn105_2)|exact hn105_2) (.string ((rd_T169 l0_1 x4_2).f2))).trans hx105_0;replace hx105_1:=(cell_far (p:=⟨gb104,2,none⟩) (by first|(rw[add_block];exact hn105_2)|(show(Addr.add _ _).block≠_;rw[add_block];exact hn105_2)|exact hn105_2) (.string ((rd_T169 l0_1 x4_2).f2))).trans hx105_1;replace hx105_2:=(cell_far (p:=⟨gb104,2,none⟩) (by first|(rw[add_block];exact hn105_2)|(show(Addr.add _ _).block≠_;rw[add_block];exact hn105_2)|exact hn105_2) (.string ((rd_T169 l0_1 x4_2).f2))).trans hx105_2;(try have hy105_0:=fun(n_:Nat)=> (show(((((w44.drewN n_).setCell ⟨gb104,0,none⟩ (.int .i64 ((rd_T169 l0_1 x4_2).f0))).setCell ⟨gb104,1,none⟩ (.int .i64 ((rd_T169 l0_1 x4_2).f1))).setCell ⟨gb104,2,none⟩ (.string ((rd_T169 l0_1 x4_2).f2)))).cell? _=some _ from hx105_0));(try have hy105_1:=fun(n_:Nat)=> (show(((((w44.drewN n_).setCell ⟨gb104,0,none⟩ (.int .i64 ((rd_T169 l0_1 x4_2).f0))).setCell ⟨gb104,1,none⟩ (.int .i64 ((rd_T169 l0_1 x4_2).f1))).setCell ⟨gb104,2,none⟩ (.string ((rd_T169 l0_1 x4_2).f2)))).cell? _=some _ from hx105_1));(try have hy105_2:=fun(n_:Nat)=> (show(((((w44.drewN n_).setCell ⟨gb104,0,none⟩ (.int .i64 ((rd_T169 l0_1 x4_2).f0))).setCell ⟨gb104,1,none⟩ (.int .i64 ((rd_T169 l0_1 x4_2).f1))).setCell ⟨gb104,2,none⟩ (.string ((rd_T169 l0_1 x4_2).f2)))).cell? _=some _ from hx105_2));clear hn105_0 hn105_1 hn105_2;replace p105:=eq_true p105;replace q105:=eq_true q105;have p106:0≤((ji33):Int):=qO_;have q106:(ji33) < (l0_1.length:Int):=qO_;obtain⟨ad106,e106,hx106_0,hx106_1,hx106_2⟩:=at_T169 HR0_1.out (ji33) p106 q106;obtain rfl:ad103=ad106:=(by injection e106);have hn106_0:ad103.block≠gb104:=zLq (Nat.lt_of_lt_of_le (by have:=zCq _ _ hx106_0;first|rwa [add_block] at this|exact this) GW104.out);have hn106_1:ad103.block≠gb104:=zLq (Nat.lt_of_lt_of_le (by have:=zCq _ _ hx106_0;first|rwa [add_block] at this|exact this) GW104.out);have hn106_2:ad103.block≠gb104:=zLq (Nat.lt_of_lt_of_le (by have:=zCq _ _ hx106_0;first|rwa [add_block] at this|exact this) GW104.out);replace hx106_0:=qU_ hx106_0;replace hx106_1:=qU_ hx106_1;replace hx106_2:=qU_ hx106_2;replace hx106_0:=(cell_far (p:=⟨gb104,0,none⟩) (by first|(rw[add_block];exact hn106_0)|(show(Addr.add _ _).block≠_;rw[add_block];exact hn106_0)|exact hn106_0) (.int .i64 ((rd_T169 l0_1 x4_2).f0))).trans hx106_0;replace hx106_1:=(cell_far (p:=⟨gb104,0,none⟩) (by first|(rw[add_block];exact hn106_0)|(show(Addr.add _ _).block≠_;rw[add_block];exact hn106_0)|exact hn106_0) (.int .i64 ((rd_T169 l0_1 x4_2).f0))).trans hx106_1;replace hx106_2:=(cell_far (p:=⟨gb104,0,none⟩) (by first|(rw[add_block];exact hn106_0)|(show(Addr.add _ _).block≠_;rw[add_block];exact hn106_0)|exact hn106_0) (.int .i64 ((rd_T169 l0_1 x4_2).f0))).trans hx106_2;replace hx106_0:=(cell_far (p:=⟨gb104,1,none⟩) (by first|(rw[add_block];exact hn106_1)|(show(Addr.add _ _).block≠_;rw[add_block];exact hn106_1)|exact hn106_1) (.int .i64 ((rd_T169 l0_1 x4_2).f1))).trans hx106_0;replace hx106_1:=(cell_far (p:=⟨gb104,1,none⟩) (by first|(rw[add_block];exact hn106_1)|(show(Addr.add _ _).block≠_;rw[add_block];exact hn106_1)|exact hn106_1) (.int .i64 ((rd_T169 l0_1 x4_2).f1))).trans hx106_1;replace hx106_2:=(cell_far (p:=⟨gb104,1,none⟩) (by first|(rw[add_block];exact hn106_1)|(show(Addr.add _ _).block≠_;rw[add_block];exact hn106_1)|exact hn106_1) (.int .i64 ((rd_T169 l0_1 x4_2).f1))).trans hx106_2;replace hx106_0:=(cell_far (p:=⟨gb104,2,none⟩) (by first|(rw[add_block];exact hn106_2)|(show(Addr.add _ _).block≠_;rw[add_block];exact hn106_2)|exact hn106_2) (.string ((rd_T169 l0_1 x4_2).f2))).trans hx106_0;replace hx106_1:=(cell_far (p:=⟨gb104,2,none⟩) (by first|(rw[add_block];exact hn106_2)|(show(Addr.add _ _).block≠_;rw[add_block];exact hn106_2)|exact hn106_2) (.string ((rd_T169 l0_1 x4_2).f2))).trans hx106_1;replace hx106_2:=(cell_far (p:=⟨gb104,2,none⟩) (by first|(rw[add_block];exact hn106_2)|(show(Addr.add _ _).block≠_;rw[add_block];exact hn106_2)|exact hn106_2) (.string ((rd_T169 l0_1 x4_2).f2))).trans hx106_2;(try have hy106_0:=fun(n_:Nat)=> (show(((((w44.drewN n_).setCell ⟨gb104,0,none⟩ (.int .i64 ((rd_T169 l0_1 x4_2).f0))).setCell ⟨gb104,1,none⟩ (.int .i64 ((rd_T169 l0_1 x4_2).f1))).setCell ⟨gb104,2,none⟩ (.string ((rd_T169 l0_1 x4_2).f2)))).cell? _=some _ from hx106_0));(try have hy106_1:=fun(n_:Nat)=> (show(((((w44.drewN n_).setCell ⟨gb104,0,none⟩ (.int .i64 ((rd_T169 l0_1 x4_2).f0))).setCell ⟨gb104,1,none⟩ (.int .i64 ((rd_T169 l0_1 x4_2).f1))).setCell ⟨gb104,2,none⟩ (.string ((rd_T169 l0_1 x4_2).f2)))).cell? _=some _ from hx106_1));(try have hy106_2:=fun(n_:Nat)=> (show(((((w44.drewN n_).setCell ⟨gb104,0,none⟩ (.int .i64 ((rd_T169 l0_1 x4_2).f0))).setCell ⟨gb104,1,none⟩ (.int .i64 ((rd_T169 l0_1 x4_2).f1))).setCell ⟨gb104,2,none⟩ (.string ((rd_T169 l0_1 x4_2).f2)))).cell? _=some _ from hx106_2));clear hn106_0 hn106_1 hn106_2;replace p106:=eq_true p106;replace q106:=eq_true q106)))
           go_roundg k2
           case measure=>have:=HK1.out;have:=HK2.out;omega
           case rel=>exact⟨(wrap64 (x4_2+1)),qF_,H',⟨by have:=HK1.out;have:=HK2.out;omega⟩,⟨by(with_reducible repeat(first|refine zY ?_ _|refine zAq ?_|refine zZ ?_ _));refine blk_far ?_ NB101_104.out _;(with_reducible repeat(first|refine zY ?_ _|refine zAq ?_|refine zZ ?_ _));refine blk_far ?_ NB101_104.out _;(with_reducible repeat(first|refine zY ?_ _|refine zAq ?_|refine zZ ?_ _));refine blk_far ?_ NB101_104.out _;exact BK101.out⟩,⟨qB⟩⟩
          rw[if_neg c36] at H;have c36b0:(((rd_T169 l0_1 (ji33)).f0)==((rd_T169 l0_1 x4_2).f0))=false:=beq_eq_false_iff_ne.mpr c36;have c36b1:(((rd_T169 l0_1 (ji33)).f0) !=((rd_T169 l0_1 x4_2).f0))=true:=bne_iff_ne.mpr c36;have H':=zA H;clear H;obtain⟨_,_,_,_⟩:=qc2f BK101.out;have p103:0≤(x4_2:Int):=qO_;have q103:x4_2 < (l0_1.length:Int):=qO_;obtain⟨ad103,e103,hx103_0,hx103_1,hx103_2⟩:=at_T169 HR0_1.out x4_2 p103 q103;cases e103
          replace hx103_0:=qU_ hx103_0;replace hx103_1:=qU_ hx103_1;replace hx103_2:=qU_ hx103_2;replace p103:=eq_true p103;replace q103:=eq_true q103;go_wp2_with (first|((with_reducible refine gate_dst (N:=5) rfl ?_);(try(refine gate_guard (by rfl) ?_;dsimp only));refine box_event qr (N:=5) qr (cs:= #[.int .i64 0,.int .i64 0,.string (⟨#[]⟩:ByteArray)]) (t:=169) qg ?_;intro gb104 hg w49 hbox hb;have BK104:=zA (hbox);have GW104:=zA ((qS:w.heap.size≤gb104));have GE104:=zA ((qS:w.heap.size≤gb104));replace HB:=zA (zV qB hb);have NB101_104:=zA ((by rw[hg];exact zLq (qL BK101.out):gb101≠gb104));have NB104_101:=zA ((by rw[hg];exact zMq (qL BK101.out):gb104≠gb101));replace BK101:=zA (qX BK101.out hb);clear hb hbox hg;have hnb50:=NB104_101.out;have hnc50:=NB101_104.out;obtain⟨hcz51_0,hcz51_1,hcz51_2,hfz51_0,hfz51_1,hfz51_2⟩:=qc3f BK104.out;obtain⟨hcz52_0,hcz52_1,hfz52_0,hfz52_1⟩:=qc2f BK101.out;have p105:0≤((ji33):Int):=qO_;have q105:(ji33) < (l0_1.length:Int):=qO_;obtain⟨ad105,e105,hx105_0,hx105_1,hx105_2⟩:=at_T169 HR0_1.out (ji33) p105 q105;obtain rfl:ad103=ad105:=(by injection e105);have hn105_0:ad103.block≠gb104:=zLq (Nat.lt_of_lt_of_le (by have:=zCq _ _ hx105_0;first|rwa [add_block] at this|exact this) GW104.out);have hn105_1:ad103.block≠gb104:=zLq (Nat.lt_of_lt_of_le (by have:=zCq _ _ hx105_0;first|rwa [add_block] at this|exact this) GW104.out);have hn105_2:ad103.block≠gb104:=zLq (Nat.lt_of_lt_of_le (by have:=zCq _ _ hx105_0;first|rwa [add_block] at this|exact this) GW104.out);replace hx105_0:=qU_ hx105_0;replace hx105_1:=qU_ hx105_1;replace hx105_2:=qU_ hx105_2;replace hx105_0:=(cell_far (p:=⟨gb104,0,none⟩) (by first|(rw[add_block];exact hn105_0)|(show(Addr.add _ _).block≠_;rw[add_block];exact hn105_0)|exact hn105_0) (.int .i64 ((rd_T169 l0_1 x4_2).f0))).trans hx105_0;replace hx105_1:=(cell_far (p:=⟨gb104,0,none⟩) (by first|(rw[add_block];exact hn105_0)|(show(Addr.add _ _).block≠_;rw[add_block];exact hn105_0)|exact hn105_0) (.int .i64 ((rd_T169 l0_1 x4_2).f0))).trans hx105_1;replace hx105_2:=(cell_far (p:=⟨gb104,0,none⟩) (by first|(rw[add_block];exact hn105_0)|(show(Addr.add _ _).block≠_;rw[add_block];exact hn105_0)|exact hn105_0) (.int .i64 ((rd_T169 l0_1 x4_2).f0))).trans hx105_2;replace hx105_0:=(cell_far (p:=⟨gb104,1,none⟩) (by first|(rw[add_block];exact hn105_1)|(show(Addr.add _ _).block≠_;rw[add_block];exact hn105_1)|exact hn105_1) (.int .i64 ((rd_T169 l0_1 x4_2).f1))).trans hx105_0;replace hx105_1:=(cell_far (p:=⟨gb104,1,none⟩) (by first|(rw[add_block];exact hn105_1)|(show(Addr.add _ _).block≠_;rw[add_block];exact hn105_1)|exact hn105_1) (.int .i64 ((rd_T169 l0_1 x4_2).f1))).trans hx105_1;replace hx105_2:=(cell_far (p:=⟨gb104,1,none⟩) (by first|(rw[add_block];exact hn105_1)|(show(Addr.add _ _).block≠_;rw[add_block];exact hn105_1)|exact hn105_1) (.int .i64 ((rd_T169 l0_1 x4_2).f1))).trans hx105_2;replace hx105_0:=(cell_far (p:=⟨gb104,2,none⟩) (by first|(rw[add_block];exact hn105_2)|(show(Addr.add _ _).block≠_;rw[add_block];exact hn105_2)|exact hn105_2) (.string ((rd_T169 l0_1 x4_2).f2))).trans hx105_0;replace hx105_1:=(cell_far (p:=⟨gb104,2,none⟩) (by first|(rw[add_block];exact hn105_2)|(show(Addr.add _ _).block≠_;rw[add_block];exact hn105_2)|exact hn105_2) (.string ((rd_T169 l0_1 x4_2).f2))).trans hx105_1;replace hx105_2:=(cell_far (p:=⟨gb104,2,none⟩) (by first|(rw[add_block];exact hn105_2)|(show(Addr.add _ _).block≠_;rw[add_block];exact hn105_2)|exact hn105_2) (.string ((rd_T169 l0_1 x4_2).f2))).trans hx105_2;(try have hy105_0:=fun(n_:Nat)=> (show(((((w49.drewN n_).setCell ⟨gb104,0,none⟩ (.int .i64 ((rd_T169 l0_1 x4_2).f0))).setCell ⟨gb104,1,none⟩ (.int .i64 ((rd_T169 l0_1 x4_2).f1))).setCell ⟨gb104,2,none⟩ (.string ((rd_T169 l0_1 x4_2).f2)))).cell? _=some _ from hx105_0));(try have hy105_1:=fun(n_:Nat)=> (show(((((w49.drewN n_).setCell ⟨gb104,0,none⟩ (.int .i64 ((rd_T169 l0_1 x4_2).f0))).setCell ⟨gb104,1,none⟩ (.int .i64 ((rd_T169 l0_1 x4_2).f1))).setCell ⟨gb104,2,none⟩ (.string ((rd_T169 l0_1 x4_2).f2)))).cell? _=some _ from hx105_1));(try have hy105_2:=fun(n_:Nat)=> (show(((((w49.drewN n_).setCell ⟨gb104,0,none⟩ (.int .i64 ((rd_T169 l0_1 x4_2).f0))).setCell ⟨gb104,1,none⟩ (.int .i64 ((rd_T169 l0_1 x4_2).f1))).setCell ⟨gb104,2,none⟩ (.string ((rd_T169 l0_1 x4_2).f2)))).cell? _=some _ from hx105_2));clear hn105_0 hn105_1 hn105_2;replace p105:=eq_true p105;replace q105:=eq_true q105))
          repeat(go_quiet (first|((with_reducible refine gate_dst (N:=5) rfl ?_);(try(refine gate_guard (by rfl) ?_;dsimp only));refine box_event qr (N:=5) qr (cs:= #[.int .i64 0,.int .i64 0,.string (⟨#[]⟩:ByteArray)]) (t:=169) qg ?_;intro gb104 hg w49 hbox hb;have BK104:=zA (hbox);have GW104:=zA ((qS:w.heap.size≤gb104));have GE104:=zA ((qS:w.heap.size≤gb104));replace HB:=zA (zV qB hb);have NB101_104:=zA ((by rw[hg];exact zLq (qL BK101.out):gb101≠gb104));have NB104_101:=zA ((by rw[hg];exact zMq (qL BK101.out):gb104≠gb101));replace BK101:=zA (qX BK101.out hb);clear hb hbox hg;have hnb50:=NB104_101.out;have hnc50:=NB101_104.out;obtain⟨hcz51_0,hcz51_1,hcz51_2,hfz51_0,hfz51_1,hfz51_2⟩:=qc3f BK104.out;obtain⟨hcz52_0,hcz52_1,hfz52_0,hfz52_1⟩:=qc2f BK101.out;have p105:0≤((ji33):Int):=qO_;have q105:(ji33) < (l0_1.length:Int):=qO_;obtain⟨ad105,e105,hx105_0,hx105_1,hx105_2⟩:=at_T169 HR0_1.out (ji33) p105 q105;obtain rfl:ad103=ad105:=(by injection e105);have hn105_0:ad103.block≠gb104:=zLq (Nat.lt_of_lt_of_le (by have:=zCq _ _ hx105_0;first|rwa [add_block] at this|exact this) GW104.out);have hn105_1:ad103.block≠gb104:=zLq (Nat.lt_of_lt_of_le (by have:=zCq _ _ hx105_0;first|rwa [add_block] at this|exact this) GW104.out);have hn105_2:ad103.block≠gb104:=zLq (Nat.lt_of_lt_of_le (by have:=zCq _ _ hx105_0;first|rwa [add_block] at this|exact this) GW104.out);replace hx105_0:=qU_ hx105_0;replace hx105_1:=qU_ hx105_1;replace hx105_2:=qU_ hx105_2;replace hx105_0:=(cell_far (p:=⟨gb104,0,none⟩) (by first|(rw[add_block];exact hn105_0)|(show(Addr.add _ _).block≠_;rw[add_block];exact hn105_0)|exact hn105_0) (.int .i64 ((rd_T169 l0_1 x4_2).f0))).trans hx105_0;replace hx105_1:=(cell_far (p:=⟨gb104,0,none⟩) (by first|(rw[add_block];exact hn105_0)|(show(Addr.add _ _).block≠_;rw[add_block];exact hn105_0)|exact hn105_0) (.int .i64 ((rd_T169 l0_1 x4_2).f0))).trans hx105_1;replace hx105_2:=(cell_far (p:=⟨gb104,0,none⟩) (by first|(rw[add_block];exact hn105_0)|(show(Addr.add _ _).block≠_;rw[add_block];exact hn105_0)|exact hn105_0) (.int .i64 ((rd_T169 l0_1 x4_2).f0))).trans hx105_2;replace hx105_0:=(cell_far (p:=⟨gb104,1,none⟩) (by first|(rw[add_block];exact hn105_1)|(show(Addr.add _ _).block≠_;rw[add_block];exact hn105_1)|exact hn105_1) (.int .i64 ((rd_T169 l0_1 x4_2).f1))).trans hx105_0;replace hx105_1:=(cell_far (p:=⟨gb104,1,none⟩) (by first|(rw[add_block];exact hn105_1)|(show(Addr.add _ _).block≠_;rw[add_block];exact hn105_1)|exact hn105_1) (.int .i64 ((rd_T169 l0_1 x4_2).f1))).trans hx105_1;replace hx105_2:=(cell_far (p:=⟨gb104,1,none⟩) (by first|(rw[add_block];exact hn105_1)|(show(Addr.add _ _).block≠_;rw[add_block];exact hn105_1)|exact hn105_1) (.int .i64 ((rd_T169 l0_1 x4_2).f1))).trans hx105_2;replace hx105_0:=(cell_far (p:=⟨gb104,2,none⟩) (by first|(rw[add_block];exact hn105_2)|(show(Addr.add _ _).block≠_;rw[add_block];exact hn105_2)|exact hn105_2) (.string ((rd_T169 l0_1 x4_2).f2))).trans hx105_0;replace hx105_1:=(cell_far (p:=⟨gb104,2,none⟩) (by first|(rw[add_block];exact hn105_2)|(show(Addr.add _ _).block≠_;rw[add_block];exact hn105_2)|exact hn105_2) (.string ((rd_T169 l0_1 x4_2).f2))).trans hx105_1;replace hx105_2:=(cell_far (p:=⟨gb104,2,none⟩) (by first|(rw[add_block];exact hn105_2)|(show(Addr.add _ _).block≠_;rw[add_block];exact hn105_2)|exact hn105_2) (.string ((rd_T169 l0_1 x4_2).f2))).trans hx105_2;(try have hy105_0:=fun(n_:Nat)=> (show(((((w49.drewN n_).setCell ⟨gb104,0,none⟩ (.int .i64 ((rd_T169 l0_1 x4_2).f0))).setCell ⟨gb104,1,none⟩ (.int .i64 ((rd_T169 l0_1 x4_2).f1))).setCell ⟨gb104,2,none⟩ (.string ((rd_T169 l0_1 x4_2).f2)))).cell? _=some _ from hx105_0));(try have hy105_1:=fun(n_:Nat)=> (show(((((w49.drewN n_).setCell ⟨gb104,0,none⟩ (.int .i64 ((rd_T169 l0_1 x4_2).f0))).setCell ⟨gb104,1,none⟩ (.int .i64 ((rd_T169 l0_1 x4_2).f1))).setCell ⟨gb104,2,none⟩ (.string ((rd_T169 l0_1 x4_2).f2)))).cell? _=some _ from hx105_1));(try have hy105_2:=fun(n_:Nat)=> (show(((((w49.drewN n_).setCell ⟨gb104,0,none⟩ (.int .i64 ((rd_T169 l0_1 x4_2).f0))).setCell ⟨gb104,1,none⟩ (.int .i64 ((rd_T169 l0_1 x4_2).f1))).setCell ⟨gb104,2,none⟩ (.string ((rd_T169 l0_1 x4_2).f2)))).cell? _=some _ from hx105_2));clear hn105_0 hn105_1 hn105_2;replace p105:=eq_true p105;replace q105:=eq_true q105));try go_wp2_with (first|((with_reducible refine gate_dst (N:=5) rfl ?_);(try(refine gate_guard (by rfl) ?_;dsimp only));refine box_event qr (N:=5) qr (cs:= #[.int .i64 0,.int .i64 0,.string (⟨#[]⟩:ByteArray)]) (t:=169) qg ?_;intro gb104 hg w49 hbox hb;have BK104:=zA (hbox);have GW104:=zA ((qS:w.heap.size≤gb104));have GE104:=zA ((qS:w.heap.size≤gb104));replace HB:=zA (zV qB hb);have NB101_104:=zA ((by rw[hg];exact zLq (qL BK101.out):gb101≠gb104));have NB104_101:=zA ((by rw[hg];exact zMq (qL BK101.out):gb104≠gb101));replace BK101:=zA (qX BK101.out hb);clear hb hbox hg;have hnb50:=NB104_101.out;have hnc50:=NB101_104.out;obtain⟨hcz51_0,hcz51_1,hcz51_2,hfz51_0,hfz51_1,hfz51_2⟩:=qc3f BK104.out;obtain⟨hcz52_0,hcz52_1,hfz52_0,hfz52_1⟩:=qc2f BK101.out;have p105:0≤((ji33):Int):=qO_;have q105:(ji33) < (l0_1.length:Int):=qO_;obtain⟨ad105,e105,hx105_0,hx105_1,hx105_2⟩:=at_T169 HR0_1.out (ji33) p105 q105;obtain rfl:ad103=ad105:=(by injection e105);have hn105_0:ad103.block≠gb104:=zLq (Nat.lt_of_lt_of_le (by have:=zCq _ _ hx105_0;first|rwa [add_block] at this|exact this) GW104.out);have hn105_1:ad103.block≠gb104:=zLq (Nat.lt_of_lt_of_le (by have:=zCq _ _ hx105_0;first|rwa [add_block] at this|exact this) GW104.out);have hn105_2:ad103.block≠gb104:=zLq (Nat.lt_of_lt_of_le (by have:=zCq _ _ hx105_0;first|rwa [add_block] at this|exact this) GW104.out);replace hx105_0:=qU_ hx105_0;replace hx105_1:=qU_ hx105_1;replace hx105_2:=qU_ hx105_2;replace hx105_0:=(cell_far (p:=⟨gb104,0,none⟩) (by first|(rw[add_block];exact hn105_0)|(show(Addr.add _ _).block≠_;rw[add_block];exact hn105_0)|exact hn105_0) (.int .i64 ((rd_T169 l0_1 x4_2).f0))).trans hx105_0;replace hx105_1:=(cell_far (p:=⟨gb104,0,none⟩) (by first|(rw[add_block];exact hn105_0)|(show(Addr.add _ _).block≠_;rw[add_block];exact hn105_0)|exact hn105_0) (.int .i64 ((rd_T169 l0_1 x4_2).f0))).trans hx105_1;replace hx105_2:=(cell_far (p:=⟨gb104,0,none⟩) (by first|(rw[add_block];exact hn105_0)|(show(Addr.add _ _).block≠_;rw[add_block];exact hn105_0)|exact hn105_0) (.int .i64 ((rd_T169 l0_1 x4_2).f0))).trans hx105_2;replace hx105_0:=(cell_far (p:=⟨gb104,1,none⟩) (by first|(rw[add_block];exact hn105_1)|(show(Addr.add _ _).block≠_;rw[add_block];exact hn105_1)|exact hn105_1) (.int .i64 ((rd_T169 l0_1 x4_2).f1))).trans hx105_0;replace hx105_1:=(cell_far (p:=⟨gb104,1,none⟩) (by first|(rw[add_block];exact hn105_1)|(show(Addr.add _ _).block≠_;rw[add_block];exact hn105_1)|exact hn105_1) (.int .i64 ((rd_T169 l0_1 x4_2).f1))).trans hx105_1;replace hx105_2:=(cell_far (p:=⟨gb104,1,none⟩) (by first|(rw[add_block];exact hn105_1)|(show(Addr.add _ _).block≠_;rw[add_block];exact hn105_1)|exact hn105_1) (.int .i64 ((rd_T169 l0_1 x4_2).f1))).trans hx105_2;replace hx105_0:=(cell_far (p:=⟨gb104,2,none⟩) (by first|(rw[add_block];exact hn105_2)|(show(Addr.add _ _).block≠_;rw[add_block];exact hn105_2)|exact hn105_2) (.string ((rd_T169 l0_1 x4_2).f2))).trans hx105_0;replace hx105_1:=(cell_far (p:=⟨gb104,2,none⟩) (by first|(rw[add_block];exact hn105_2)|(show(Addr.add _ _).block≠_;rw[add_block];exact hn105_2)|exact hn105_2) (.string ((rd_T169 l0_1 x4_2).f2))).trans hx105_1;replace hx105_2:=(cell_far (p:=⟨gb104,2,none⟩) (by first|(rw[add_block];exact hn105_2)|(show(Addr.add _ _).block≠_;rw[add_block];exact hn105_2)|exact hn105_2) (.string ((rd_T169 l0_1 x4_2).f2))).trans hx105_2;(try have hy105_0:=fun(n_:Nat)=> (show(((((w49.drewN n_).setCell ⟨gb104,0,none⟩ (.int .i64 ((rd_T169 l0_1 x4_2).f0))).setCell ⟨gb104,1,none⟩ (.int .i64 ((rd_T169 l0_1 x4_2).f1))).setCell ⟨gb104,2,none⟩ (.string ((rd_T169 l0_1 x4_2).f2)))).cell? _=some _ from hx105_0));(try have hy105_1:=fun(n_:Nat)=> (show(((((w49.drewN n_).setCell ⟨gb104,0,none⟩ (.int .i64 ((rd_T169 l0_1 x4_2).f0))).setCell ⟨gb104,1,none⟩ (.int .i64 ((rd_T169 l0_1 x4_2).f1))).setCell ⟨gb104,2,none⟩ (.string ((rd_T169 l0_1 x4_2).f2)))).cell? _=some _ from hx105_1));(try have hy105_2:=fun(n_:Nat)=> (show(((((w49.drewN n_).setCell ⟨gb104,0,none⟩ (.int .i64 ((rd_T169 l0_1 x4_2).f0))).setCell ⟨gb104,1,none⟩ (.int .i64 ((rd_T169 l0_1 x4_2).f1))).setCell ⟨gb104,2,none⟩ (.string ((rd_T169 l0_1 x4_2).f2)))).cell? _=some _ from hx105_2));clear hn105_0 hn105_1 hn105_2;replace p105:=eq_true p105;replace q105:=eq_true q105)))
          go_roundg k2
          case measure=>have:=HK1.out;have:=HK2.out;omega
          case rel=>exact⟨(wrap64 (x4_2+1)),qF_,H',⟨by have:=HK1.out;have:=HK2.out;omega⟩,⟨by(with_reducible repeat(first|refine zY ?_ _|refine zAq ?_|refine zZ ?_ _));refine blk_far ?_ NB101_104.out _;(with_reducible repeat(first|refine zY ?_ _|refine zAq ?_|refine zZ ?_ _));refine blk_far ?_ NB101_104.out _;(with_reducible repeat(first|refine zY ?_ _|refine zAq ?_|refine zZ ?_ _));refine blk_far ?_ NB101_104.out _;exact BK101.out⟩,⟨qB⟩⟩
         rw[if_neg c35] at H;exact absurd H (by simp)
        rw[if_neg c34] at H;exact absurd H (by simp)
       rw[if_neg c32] at H;have c32b0:decide (0 < x4_2)=false:=zGq c32;clear c32;have H':=zA H;clear H;obtain⟨_,_,_,_⟩:=qc2f BK101.out;have p103:0≤(x4_2:Int):=qO_;have q103:x4_2 < (l0_1.length:Int):=qO_;obtain⟨ad103,e103,hx103_0,hx103_1,hx103_2⟩:=at_T169 HR0_1.out x4_2 p103 q103;cases e103
       replace hx103_0:=qU_ hx103_0;replace hx103_1:=qU_ hx103_1;replace hx103_2:=qU_ hx103_2;replace p103:=eq_true p103;replace q103:=eq_true q103;go_wp2_with (first|((with_reducible refine gate_dst (N:=5) rfl ?_);(try(refine gate_guard (by rfl) ?_;dsimp only));refine box_event qr (N:=5) qr (cs:= #[.int .i64 0,.int .i64 0,.string (⟨#[]⟩:ByteArray)]) (t:=169) qg ?_;intro gb104 hg w54 hbox hb;have BK104:=zA (hbox);have GW104:=zA ((qS:w.heap.size≤gb104));have GE104:=zA ((qS:w.heap.size≤gb104));replace HB:=zA (zV qB hb);have NB101_104:=zA ((by rw[hg];exact zLq (qL BK101.out):gb101≠gb104));have NB104_101:=zA ((by rw[hg];exact zMq (qL BK101.out):gb104≠gb101));replace BK101:=zA (qX BK101.out hb);clear hb hbox hg;have hnb55:=NB104_101.out;have hnc55:=NB101_104.out;obtain⟨hcz56_0,hcz56_1,hcz56_2,hfz56_0,hfz56_1,hfz56_2⟩:=qc3f BK104.out));repeat(go_quiet (first|((with_reducible refine gate_dst (N:=5) rfl ?_);(try(refine gate_guard (by rfl) ?_;dsimp only));refine box_event qr (N:=5) qr (cs:= #[.int .i64 0,.int .i64 0,.string (⟨#[]⟩:ByteArray)]) (t:=169) qg ?_;intro gb104 hg w54 hbox hb;have BK104:=zA (hbox);have GW104:=zA ((qS:w.heap.size≤gb104));have GE104:=zA ((qS:w.heap.size≤gb104));replace HB:=zA (zV qB hb);have NB101_104:=zA ((by rw[hg];exact zLq (qL BK101.out):gb101≠gb104));have NB104_101:=zA ((by rw[hg];exact zMq (qL BK101.out):gb104≠gb101));replace BK101:=zA (qX BK101.out hb);clear hb hbox hg;have hnb55:=NB104_101.out;have hnc55:=NB101_104.out;obtain⟨hcz56_0,hcz56_1,hcz56_2,hfz56_0,hfz56_1,hfz56_2⟩:=qc3f BK104.out));try go_wp2_with (first|((with_reducible refine gate_dst (N:=5) rfl ?_);(try(refine gate_guard (by rfl) ?_;dsimp only));refine box_event qr (N:=5) qr (cs:= #[.int .i64 0,.int .i64 0,.string (⟨#[]⟩:ByteArray)]) (t:=169) qg ?_;intro gb104 hg w54 hbox hb;have BK104:=zA (hbox);have GW104:=zA ((qS:w.heap.size≤gb104));have GE104:=zA ((qS:w.heap.size≤gb104));replace HB:=zA (zV qB hb);have NB101_104:=zA ((by rw[hg];exact zLq (qL BK101.out):gb101≠gb104));have NB104_101:=zA ((by rw[hg];exact zMq (qL BK101.out):gb104≠gb101));replace BK101:=zA (qX BK101.out hb);clear hb hbox hg;have hnb55:=NB104_101.out;have hnc55:=NB101_104.out;obtain⟨hcz56_0,hcz56_1,hcz56_2,hfz56_0,hfz56_1,hfz56_2⟩:=qc3f BK104.out)))
       go_roundg k2
       case measure=>have:=HK1.out;have:=HK2.out;omega
       case rel=>exact⟨(wrap64 (x4_2+1)),qF_,H',⟨by have:=HK1.out;have:=HK2.out;omega⟩,⟨by(with_reducible repeat(first|refine zY ?_ _|refine zAq ?_|refine zZ ?_ _));refine blk_far ?_ NB101_104.out _;(with_reducible repeat(first|refine zY ?_ _|refine zAq ?_|refine zZ ?_ _));refine blk_far ?_ NB101_104.out _;(with_reducible repeat(first|refine zY ?_ _|refine zAq ?_|refine zZ ?_ _));refine blk_far ?_ NB101_104.out _;exact BK101.out⟩,⟨qB⟩⟩
      rw[if_neg c16] at H;exact absurd H (by simp)
     rw[if_neg c15] at H;have c15b0:=zGq c15;clear c15;obtain rfl:=zKq H;obtain⟨_,_,_,_⟩:=qc2f BK101.out;go_wp2;repeat(go_quiet (fail);try go_wp2)
     go_ret;exact⟨qE,qB⟩
mutual
def aJ.l0:Nat→ByteArray→Int→Int→Int→List (S169)→Option (ByteArray × Int)
  |0,_,_,_,_,_=>none
  |k+1,x4,x5,x6,x102000,x102001=>if x6 < x102000 then((aT.f k x102000 x102001 x6).bind fun t106=> ((some (([(t106) % 256] :List Int):List Int)).bind fun y107=> (if x4.size+(strOfNums y107).size≤9223372036854775807 then(aJ.l1 k (x4++(strOfNums y107)) x5 x6 x102000 x102001)else(none))))else(some (x4,0))
def aJ.l1:Nat→ByteArray→Int→Int→Int→List (S169)→Option (ByteArray × Int)
  |0,_,_,_,_,_=>none
  |k+1,x4,x5,x6,x102000,x102001=>if x5 < (x102001.length:Int)then(if 0≤x5 then(aJ.j2 k x4 x5 x6 (((rd_T169 x102001 x5).f0)==x6) x102000 x102001)else(none))else(aJ.j2 k x4 x5 x6 false x102000 x102001)
def aJ.j2:Nat→ByteArray→Int→Int→Bool→Int→List (S169)→Option (ByteArray × Int)
  |0,_,_,_,_,_,_=>none
  |k+1,x4,x5,x6,x47,x102000,x102001=>if x47=true then(if 0≤x5 then(if x5 < (x102001.length:Int)then((bD.f k ((rd_T169 x102001 x5).f1) 4).bind fun bt112=> ((cM.f ((rd_T169 x102001 x5).f2)).bind fun bt115=> (if x4.size+bt112.1.size≤9223372036854775807 then(if(x4++bt112.1).size+bt115.1.size≤9223372036854775807 then(aJ.l1 k ((x4++bt112.1)++bt115.1) (wrap64 (x5+1)) x6 x102000 x102001)else(none))else(none))))else(none))else(none))else(aJ.l0 k x4 x5 (wrap64 (x6+1)) x102000 x102001)
end
def aJ.f (k:Nat) (a0_0:Int) (l0_1:List (S169)):Option (ByteArray × Int):=(aE.f k a0_0 l0_1).bind fun t102=> (if t102=0 then(aJ.l0 k (strOfNums (([(a0_0) % 256] :List Int))) 0 0 a0_0 l0_1)else(some ((⟨#[]⟩:ByteArray),40)))
theorem aJ.mono_l: ∀ k,(∀ y0 y1 y2 y3 y4,LeO (aJ.l0 k y0 y1 y2 y3 y4) (aJ.l0 (k+1) y0 y1 y2 y3 y4))∧(∀ y0 y1 y2 y3 y4,LeO (aJ.l1 k y0 y1 y2 y3 y4) (aJ.l1 (k+1) y0 y1 y2 y3 y4))∧(∀ y0 y1 y2 y3 y4 y5,LeO (aJ.j2 k y0 y1 y2 y3 y4 y5) (aJ.j2 (k+1) y0 y1 y2 y3 y4 y5))
  |0=> ⟨fun _ _ _ _ _ r h=>by simp[aJ.l0] at h,fun _ _ _ _ _ r h=>by simp[aJ.l1] at h,fun _ _ _ _ _ _ r h=>by simp[aJ.j2] at h⟩
  |k+1=>by
    obtain⟨ih0,ih1,ih2⟩:=aJ.mono_l k
    refine⟨?_,?_,?_⟩
    · intro y0 y1 y2 y3 y4
      unfold aJ.l0
      repeat' (with_reducible first|exact ih0 _ _ _ _ _|exact ih1 _ _ _ _ _|exact ih2 _ _ _ _ _ _|exact bD.mono _ _ _|exact aE.mono _ _ _|exact aT.mono _ _ _ _|exact LeO.refl _|exact LeO.none _|refine LeO.ite ?_ ?_|refine LeO.bind ?_ (fun _=>?_))
    · intro y0 y1 y2 y3 y4
      unfold aJ.l1
      repeat' (with_reducible first|exact ih0 _ _ _ _ _|exact ih1 _ _ _ _ _|exact ih2 _ _ _ _ _ _|exact bD.mono _ _ _|exact aE.mono _ _ _|exact aT.mono _ _ _ _|exact LeO.refl _|exact LeO.none _|refine LeO.ite ?_ ?_|refine LeO.bind ?_ (fun _=>?_))
    intro y0 y1 y2 y3 y4 y5
    unfold aJ.j2
    repeat' (with_reducible first|exact ih0 _ _ _ _ _|exact ih1 _ _ _ _ _|exact ih2 _ _ _ _ _ _|exact bD.mono _ _ _|exact aE.mono _ _ _|exact aT.mono _ _ _ _|exact LeO.refl _|exact LeO.none _|refine LeO.ite ?_ ?_|refine LeO.bind ?_ (fun _=>?_))
theorem aJ.mono: ∀ a0 a1 k,LeO (aJ.f k a0 a1) (aJ.f (k+1) a0 a1):=by
  intro a0 a1 k
  obtain⟨ih0,ih1,ih2⟩:=aJ.mono_l k
  unfold aJ.f
  repeat' (with_reducible first|exact ih0 _ _ _ _ _|exact ih1 _ _ _ _ _|exact ih2 _ _ _ _ _ _|exact bD.mono _ _ _|exact aE.mono _ _ _|exact aT.mono _ _ _ _|exact LeO.refl _|exact LeO.none _|refine LeO.ite ?_ ?_|refine LeO.bind ?_ (fun _=>?_))
theorem aJ.calls (k:Nat) (a0_0:Int) (A0_1:Option Addr) (c0_1:Nat) (l0_1:List (S169)) (r1:ByteArray) (r2:Int) (w:World) (hr0_1:Kd.C k169 w A0_1 l0_1.length l0_1) (hc0_1:l0_1.length≤c0_1) (h:aJ.f k a0_0 l0_1=some (r1,r2)):
  Calls Try.prog 57 #[.agg #[.int .i64 a0_0,.slice A0_1 l0_1.length c0_1]] w fun e w'=>e= .returned (.tuple #[.string r1,.int .i64 r2])∧Below w.heap.size w w':=by
 have hu82:=Try.underlying82
 have HR0_1:=zA hr0_1
 have HC0_1:=zA hc0_1
 clear hr0_1 hc0_1
 have HB:=zA (Below.refl w.heap.size w)
 have H:((aE.f k a0_0 l0_1).bind fun t102=> (if t102=0 then(aJ.l0 k (strOfNums (([(a0_0) % 256] :List Int))) 0 0 a0_0 l0_1)else(some ((⟨#[]⟩:ByteArray),40))))=some (r1,r2):=h
 clear h
 obtain⟨t102,A2,H⟩:=qD_ H
 (try dsimp only at H)
 by_cases c3:t102=0
 ·rw[if_pos c3] at H
  have c3b0:(t102==0)=true:=beq_iff_eq.mpr c3;have c3b1:(t102 != 0)=false:=bne_eq_false_iff_eq.mpr c3;clear c3;obtain⟨y103,hy103⟩: ∃ y_:List Int,y_=(([(a0_0) % 256] :List Int)):=⟨_,rfl⟩
  replace H:(aJ.l0 k (strOfNums y103) 0 0 a0_0 l0_1)=some (r1,r2):=by first|(rw[hy103];with_reducible exact H)|(have H2_:=(Option.bind_some _ _).symm.trans H;rw[hy103];with_reducible exact H2_)|(have H2_:=(Option.bind_some _ _).symm.trans H;with_reducible exact H2_)|with_reducible exact H|(rw[hy103];exact H)|exact H
  have Ny103:=zA hy103;clear hy103;have H':=zA H;clear H;go_enter Try.func57,Try.ntmps57;go_wp2_with (first|((with_reducible refine gate_dst (N:=1) rfl ?_);refine box_event qr (N:=1) qr (cs:= #[.int .i64 a0_0,.slice A0_1 l0_1.length c0_1]) (t:=82) qg ?_;intro gb101 hg w4 hbox hb;have BK101:=zA (hbox);have GW101:=zA ((qS:w.heap.size≤gb101));have GE101:=zA ((qS:w.heap.size≤gb101));replace HB:=zA (zV qB hb);clear hb hbox hg;obtain⟨_,_,_,_⟩:=qc2f BK101.out)|((with_reducible refine zJq (f:=53) rfl ?_);refine goesL_ (some 12) rfl rfl Try.func53 (by kernel_rfl) rfl #[.agg #[.int .i64 a0_0,.slice A0_1 l0_1.length c0_1]] rfl qG ?_;(with_reducible refine(aE.calls k a0_0 _ _ l0_1 t102 _ ?side1 ?side2 A2.out).mono ?_);(case side1=>exact qC (Kd.C_below HR0_1.out HB.out));(case side2=>exact HC0_1.out);rintro e w6 ⟨rfl,hb⟩;refine⟨_,rfl,?_⟩;replace BK101:=zA (qX BK101.out hb);replace HB:=zA (zV qB hb);(try clear hb);obtain⟨_,_,_,_⟩:=qc2f BK101.out)|((with_reducible refine gate_dst (N:=17) rfl ?_);refine Kd.R_lit (Kd.int .u8) _ 5 ?hg (N:=17) ?hd (xs:=([(a0_0) % 256] :List Int)) (inner:=[.int .u8 ((a0_0) % 256)]) (ok:=fun _=>True) (okp:=fun _=>True) ?hr ?hp (fun _ hk=>hk) trivial (Below.refl _ _) (Nat.le_refl _) (by simp) ?_;(case hd=>rfl);(case hg=>rfl);(case hr=>first|(go_simp;done)|(go_simp;rfl));(case hp=>exact(Reps.one (show Kd.M (Kd.int .u8) _ _ _ ((a0_0) % 256) [.int .u8 ((a0_0) % 256)] from rfl) (Reps.none _ _)));intro v104 w8 ho9 hb hg_ hnew_;clear hg_ hnew_;(first|rw[←Ny103.out] at ho9|(simp only[Int.reduceToNat] at ho9;rw[←Ny103.out] at ho9));have HO105:=zA (Kd.R_lower ho9 (zW qB));replace BK101:=zA (qX BK101.out hb);replace HB:=zA (zV qB hb);clear hb ho9;have hcv10:=own_string (P:=Try.prog) Try.underlying185 Try.underlying5 Try.underlying9 (Kd.own_of_R HO105.out)));go_loopg[4,5,6] k (fun kq v4 v5 v6 w'=> ∃ (x4_1:ByteArray) (x5_1:Int) (x6_1:Int),v4= .string x4_1∧v5= .int .i64 x5_1∧v6= .int .i64 x6_1∧Aside0 (aJ.l0 kq x4_1 x5_1 x6_1 a0_0 l0_1=some (r1,r2))∧Aside0 (kq≤k)∧Aside0 (w'.heap[gb101]? =some (.cells #[.int .i64 a0_0,(.slice A0_1 l0_1.length c0_1)] 82 (0,0)))∧Aside0 (Below w.heap.size w w'))
  case atStart=>exact⟨(strOfNums y103),(0),(0),qF_,qF_,qF_,H',⟨Nat.le_refl _⟩,⟨by exact BK101.out⟩,⟨qB⟩⟩
  case round=>
   clear H';try clear hcv1
   try clear p2
   try clear c3
   try clear c3b0
   try clear c3b1
   try clear c5
   try clear hcv10
   obtain⟨x4_1,x5_1,x6_1,rfl,rfl,rfl,HA,HK1,BK101,HB⟩:=hrel;cases gk with
   |zero=>exact absurd HA.out (by simp[aJ.l0])
   |succ k1=>
    have H:=HA.out;clear HA;simp only[aJ.l0] at H;by_cases c11:x6_1 < a0_0
    ·rw[if_pos c11] at H
     have c11b0:=zFq c11;clear c11;obtain⟨t106,A12,H⟩:=qD_ H;(try dsimp only at H);obtain⟨y107,hy107⟩: ∃ y_:List Int,y_=(([(t106) % 256] :List Int)):=⟨_,rfl⟩
     replace H:(if x4_1.size+(strOfNums y107).size≤9223372036854775807 then(aJ.l1 k1 (x4_1++(strOfNums y107)) x5_1 x6_1 a0_0 l0_1)else(none))=some (r1,r2):=by first|(rw[hy107];with_reducible exact H)|(have H2_:=(Option.bind_some _ _).symm.trans H;rw[hy107];with_reducible exact H2_)|(have H2_:=(Option.bind_some _ _).symm.trans H;with_reducible exact H2_)|with_reducible exact H|(rw[hy107];exact H)|exact H
     have Ny107:=zA hy107;clear hy107;by_cases c13:x4_1.size+(strOfNums y107).size≤9223372036854775807
     ·rw[if_pos c13] at H
      have c13b0:=eq_true c13;have c13b1:=zFq c13;try have c13b2:(9223372036854775807 < x4_1.size+(strOfNums y107).size)=False:=eq_false (Nat.not_lt.2 c13)
      have H':=zA H;clear H;obtain⟨_,_,_,_⟩:=qc2f BK101.out;go_wp2_with (first|((with_reducible refine zJq (f:=107) rfl ?_);refine goesL_ (some 28) rfl rfl Try.func107 (by kernel_rfl) rfl #[.agg #[.int .i64 a0_0,.slice A0_1 l0_1.length c0_1],.int .i64 x6_1] rfl qG ?_;(with_reducible refine(aT.calls k1 a0_0 _ _ l0_1 x6_1 t106 _ ?side1 ?side2 A12.out).mono ?_);(case side1=>exact qC (Kd.C_below HR0_1.out HB.out));(case side2=>exact HC0_1.out);rintro e w15 ⟨rfl,hb⟩;refine⟨_,rfl,?_⟩;replace BK101:=zA (qX BK101.out hb);replace HB:=zA (zV qB hb);(try clear hb))|((with_reducible refine gate_dst (N:=30) rfl ?_);refine Kd.R_lit (Kd.int .u8) _ 5 ?hg (N:=30) ?hd (xs:=([(t106) % 256] :List Int)) (inner:=[.int .u8 ((t106) % 256)]) (ok:=fun _=>True) (okp:=fun _=>True) ?hr ?hp (fun _ hk=>hk) trivial (Below.refl _ _) (Nat.le_refl _) (by simp) ?_;(case hd=>rfl);(case hg=>rfl);(case hr=>first|(go_simp;done)|(go_simp;rfl));(case hp=>exact(Reps.one (show Kd.M (Kd.int .u8) _ _ _ ((t106) % 256) [.int .u8 ((t106) % 256)] from rfl) (Reps.none _ _)));intro v108 w16 ho17 hb hg_ hnew_;clear hg_ hnew_;(first|rw[←Ny107.out] at ho17|(simp only[Int.reduceToNat] at ho17;rw[←Ny107.out] at ho17));have HO109:=zA (Kd.R_lower ho17 (zW qB));replace BK101:=zA (qX BK101.out hb);replace HB:=zA (zV qB hb);clear hb ho17;have hcv18:=own_string (P:=Try.prog) Try.underlying185 Try.underlying5 Try.underlying9 (Kd.own_of_R HO109.out)));go_loopg[4,5] k1 (fun kq v4 v5 w'=> ∃ (x4_2:ByteArray) (x5_2:Int),v4= .string x4_2∧v5= .int .i64 x5_2∧Aside0 (aJ.l1 kq x4_2 x5_2 x6_1 a0_0 l0_1=some (r1,r2))∧Aside0 (kq≤k1)∧Aside0 (w'.heap[gb101]? =some (.cells #[.int .i64 a0_0,(.slice A0_1 l0_1.length c0_1)] 82 (0,0)))∧Aside0 (Below w.heap.size w w'))
      case atStart=>exact⟨(x4_1++(strOfNums y107)),(x5_1),qF_,qF_,H',⟨Nat.le_refl _⟩,⟨by exact BK101.out⟩,⟨qB⟩⟩
      case round=>
       clear H';try clear c1
       try clear hcv1
       try clear p2
       try clear c3
       try clear c3b0
       try clear c3b1
       try clear c5
       try clear c10
       try clear hcv10
       try clear c11
       try clear c11b0
       try clear c13
       try clear c13b0
       try clear c13b1
       try clear c13b2
       try clear hcv18
       try clear p2
       obtain⟨x4_2,x5_2,rfl,rfl,HA,HK2,BK101,HB⟩:=hrel;cases gk with
       |zero=>exact absurd HA.out (by simp[aJ.l1])
       |succ k2=>
        have H:=HA.out;clear HA;simp only[aJ.l1] at H;have HC19:=zA H;clear H;go_upto_region 9 with(fail)
        go_cut[47] (fun v47 wc=> ∃ (kq:Nat) (x47_18:Bool),v47= .bool x47_18∧Aside0 (aJ.j2 kq x4_2 x5_2 x6_1 x47_18 a0_0 l0_1=some (r1,r2))∧Aside0 (kq≤k2)∧Aside0 (wc.heap[gb101]? =some (.cells #[.int .i64 a0_0,(.slice A0_1 l0_1.length c0_1)] 82 (0,0)))∧Aside0 (Below w.heap.size w wc))
        case first=>
         have H:=HC19.out;clear HC19;by_cases c20:x5_2 < (l0_1.length:Int)
         ·rw[if_pos c20] at H
          have c20b0:=zFq c20;clear c20;(first|rw[c20b0] |(simp only[i64_w,i32_w];rw[c20b0])|skip)
          by_cases c21:0≤x5_2
          ·rw[if_pos c21] at H
           have c21b0:=zFq c21;clear c21;have H':=zA H;clear H;obtain⟨_,_,_,_⟩:=qc2f BK101.out;have p110:0≤(x5_2:Int):=qO_;have q110:x5_2 < (l0_1.length:Int):=qO_;obtain⟨ad110,e110,hx110_0,hx110_1,hx110_2⟩:=at_T169 HR0_1.out x5_2 p110 q110;cases e110
           replace hx110_0:=qU_ hx110_0;replace hx110_1:=qU_ hx110_1;replace hx110_2:=qU_ hx110_2;replace p110:=eq_true p110;replace q110:=eq_true q110;go_wp2;go_meet
           case rel=>exact⟨_,((((rd_T169 l0_1 x5_2).f0)==x6_1)),qF_,H',⟨by have:=HK1.out;have:=HK2.out;first|omega|exact Nat.le_refl _⟩,⟨by exact BK101.out⟩,⟨qB⟩⟩
          rw[if_neg c21] at H;exact absurd H (by simp)
         rw[if_neg c20] at H;have c20b0:=zGq c20;clear c20;(first|rw[c20b0] |(simp only[i64_w,i32_w];rw[c20b0])|skip)
         have H':=zA H;clear H;obtain⟨_,_,_,_⟩:=qc2f BK101.out;go_wp2;go_meet
         case rel=>exact⟨_,(false),qF_,H',⟨by have:=HK1.out;have:=HK2.out;first|omega|exact Nat.le_refl _⟩,⟨by exact BK101.out⟩,⟨qB⟩⟩
        case rest=>
         clear HC19;try clear c1
         try clear p1
         try clear q1
         try clear hx1
         try clear hcv1
         try clear c2
         try clear p2
         try clear c3
         try clear c3b0
         try clear c3b1
         try clear c5
         try clear c10
         try clear hcv10
         try clear c11
         try clear c11b0
         try clear p11
         try clear q11
         try clear hx11
         try clear c13
         try clear c13b0
         try clear c13b1
         try clear c13b2
         try clear hcv18
         try clear c20
         try clear c20b0
         try clear c21
         try clear c21b0
         try clear hx110_0
         try clear hx110_1
         try clear hx110_2
         try clear p110
         try clear p2
         try clear q110
         obtain⟨kq,x47_18,rfl,HA,HJ18,BK101,HB⟩:=hcut;cases kq with
         |zero=>exact absurd HA.out (by simp[aJ.j2])
         |succ kj18=>
          have H:=HA.out;clear HA;simp only[aJ.j2] at H;by_cases c24:x47_18=true
          ·subst c24
           have H1:(if 0≤x5_2 then(if x5_2 < (l0_1.length:Int)then((bD.f kj18 ((rd_T169 l0_1 x5_2).f1) 4).bind fun bt112=> ((cM.f ((rd_T169 l0_1 x5_2).f2)).bind fun bt115=> (if x4_2.size+bt112.1.size≤9223372036854775807 then(if(x4_2++bt112.1).size+bt115.1.size≤9223372036854775807 then(aJ.l1 kj18 ((x4_2++bt112.1)++bt115.1) (wrap64 (x5_2+1)) x6_1 a0_0 l0_1)else(none))else(none))))else(none))else(none))=some (r1,r2):=by first|(rw[if_pos rfl] at H;exact H)|rfl
           clear H;have H:=H1;clear H1;by_cases c25:0≤x5_2
           ·rw[if_pos c25] at H
            have c25b0:=zFq c25;clear c25;by_cases c26:x5_2 < (l0_1.length:Int)
            ·rw[if_pos c26] at H
             have c26b0:=zFq c26;clear c26;obtain⟨⟨t112,t113⟩,A27,H⟩:=qD_ H;(try dsimp only at H);obtain⟨⟨t115,t116⟩,A28,H⟩:=qD_ H;(try dsimp only at H);by_cases c29:x4_2.size+t112.size≤9223372036854775807
             ·rw[if_pos c29] at H
              have c29b0:=eq_true c29;have c29b1:=zFq c29;try have c29b2:(9223372036854775807 < x4_2.size+t112.size)=False:=eq_false (Nat.not_lt.2 c29)
              by_cases c30:(x4_2++t112).size+t115.size≤9223372036854775807
              ·rw[if_pos c30] at H
               have c30b0:=eq_true c30;have c30b1:=zFq c30;try have c30b2:(9223372036854775807 < (x4_2++t112).size+t115.size)=False:=eq_false (Nat.not_lt.2 c30)
               have H':=zA H;clear H;obtain⟨_,_,_,_⟩:=qc2f BK101.out;have p111:0≤(x5_2:Int):=qO_;have q111:x5_2 < (l0_1.length:Int):=qO_;obtain⟨ad111,e111,hx111_0,hx111_1,hx111_2⟩:=at_T169 HR0_1.out x5_2 p111 q111;cases e111
               replace hx111_0:=qU_ hx111_0;replace hx111_1:=qU_ hx111_1;replace hx111_2:=qU_ hx111_2;replace p111:=eq_true p111;replace q111:=eq_true q111;go_wp2_with (first|((with_reducible refine zJq (f:=113) rfl ?_);refine goesL_ (some 55) rfl rfl Try.func113 (by kernel_rfl) rfl #[.int .i64 ((rd_T169 l0_1 x5_2).f1),.int .i64 4] rfl qG ?_;(with_reducible refine(bD.calls kj18 ((rd_T169 l0_1 x5_2).f1) 4 t112 t113 _ A27.out).mono ?_);rintro e w32 ⟨rfl,hb⟩;refine⟨_,rfl,?_⟩;replace BK101:=zA (qX BK101.out hb);replace HB:=zA (zV qB hb);(try clear hb);obtain⟨_,_,_,_⟩:=qc2f BK101.out;have p114:0≤(x5_2:Int):=qO_;have q114:x5_2 < (l0_1.length:Int):=qO_;obtain⟨ad114,e114,hx114_0,hx114_1,hx114_2⟩:=at_T169 HR0_1.out x5_2 p114 q114;obtain rfl:ad111=ad114:=(by injection e114);replace hx114_0:=qU_ hx114_0;replace hx114_1:=qU_ hx114_1;replace hx114_2:=qU_ hx114_2;replace p114:=eq_true p114;replace q114:=eq_true q114)|((with_reducible refine zJq (f:=114) rfl ?_);refine goesL_ (some 65) rfl rfl Try.func114 (by kernel_rfl) rfl #[.string ((rd_T169 l0_1 x5_2).f2)] rfl qG ?_;(with_reducible refine(cM.calls ((rd_T169 l0_1 x5_2).f2) t115 t116 _ A28.out).mono ?_);rintro e w34 ⟨rfl,hb⟩;refine⟨_,rfl,?_⟩;replace BK101:=zA (qX BK101.out hb);replace HB:=zA (zV qB hb);(try clear hb)));go_roundg kj18
               case measure=>have:=HK1.out;have:=HK2.out;have:=HJ18.out;omega
               case rel=>exact⟨((x4_2++t112)++t115),(wrap64 (x5_2+1)),qF_,qF_,H',⟨by have:=HK1.out;have:=HK2.out;have:=HJ18.out;omega⟩,⟨by exact BK101.out⟩,⟨qB⟩⟩
              rw[if_neg c30] at H;exact absurd H (by simp)
             rw[if_neg c29] at H;exact absurd H (by simp)
            rw[if_neg c26] at H;exact absurd H (by simp)
           rw[if_neg c25] at H;exact absurd H (by simp)
          replace c24:=Bool.eq_false_iff.mpr c24;subst c24;have H1:(aJ.l0 kj18 x4_2 x5_2 (wrap64 (x6_1+1)) a0_0 l0_1)=some (r1,r2):=by first|(rw[if_neg (show ¬ (false=true) by decide)] at H;exact H)|rfl
          clear H;have H:=H1;clear H1;have H':=zA H;clear H;go_wp2;go_roundg kj18
          case measure=>have:=HK1.out;have:=HK2.out;have:=HJ18.out;omega
          case rel=>exact⟨(x4_2),(x5_2),(wrap64 (x6_1+1)),qF_,qF_,qF_,H',⟨by have:=HK1.out;have:=HK2.out;have:=HJ18.out;omega⟩,⟨by exact BK101.out⟩,⟨qB⟩⟩
     rw[if_neg c13] at H;exact absurd H (by simp)
    rw[if_neg c11] at H;have c11b0:=zGq c11;clear c11;simp only[zNq,zOq] at H;obtain⟨rfl,rfl⟩:=H;obtain⟨_,_,_,_⟩:=qc2f BK101.out;go_wp2;go_ret2;exact⟨qE,qB⟩
 rw[if_neg c3] at H
 have c3b0:(t102==0)=false:=beq_eq_false_iff_ne.mpr c3
 have c3b1:(t102 != 0)=true:=bne_iff_ne.mpr c3
 simp only[zNq,zOq] at H
 obtain⟨rfl,rfl⟩:=H
 go_enter Try.func57,Try.ntmps57
 go_wp2_with (first|((with_reducible refine gate_dst (N:=1) rfl ?_);refine box_event qr (N:=1) qr (cs:= #[.int .i64 a0_0,.slice A0_1 l0_1.length c0_1]) (t:=82) qg ?_;intro gb101 hg w36 hbox hb;have BK101:=zA (hbox);have GW101:=zA ((qS:w.heap.size≤gb101));have GE101:=zA ((qS:w.heap.size≤gb101));replace HB:=zA (zV qB hb);clear hb hbox hg;obtain⟨_,_,_,_⟩:=qc2f BK101.out)|((with_reducible refine zJq (f:=53) rfl ?_);refine goesL_ (some 12) rfl rfl Try.func53 (by kernel_rfl) rfl #[.agg #[.int .i64 a0_0,.slice A0_1 l0_1.length c0_1]] rfl qG ?_;(with_reducible refine(aE.calls k a0_0 _ _ l0_1 t102 _ ?side1 ?side2 A2.out).mono ?_);(case side1=>exact qC (Kd.C_below HR0_1.out HB.out));(case side2=>exact HC0_1.out);rintro e w38 ⟨rfl,hb⟩;refine⟨_,rfl,?_⟩;replace BK101:=zA (qX BK101.out hb);replace HB:=zA (zV qB hb);(try clear hb)))
 go_ret2
 exact⟨qE,qB⟩
mutual
def aG.j0:Nat→ByteArray→Int→Int→Bool→Option (Int × Int × Int)
  |0,_,_,_,_=>none
  |k+1,x0,x1,x2,x23=>if x23=true then(some (0,0,2))else(if(wrap64 ((x0.size:Int) - x1)) < x2 then(some (0,0,4))else(if x2=8 then(if 0≤x1 then(if x1 < (x0.size:Int)then(aG.j1 k x0 x1 x2 (decide ((bt x0 x1) > 127)))else(none))else(none))else(aG.j1 k x0 x1 x2 false)))
def aG.j1:Nat→ByteArray→Int→Int→Bool→Option (Int × Int × Int)
  |0,_,_,_,_=>none
  |k+1,x0,x1,x2,x37=>if x37=true then(some (0,0,8))else(aG.l0 k x0 x1 x2 0 x1)
def aG.l0:Nat→ByteArray→Int→Int→Int→Int→Option (Int × Int × Int)
  |0,_,_,_,_,_=>none
  |k+1,x0,x1,x2,x9,x10=>if x10 < (wrap64 (x1+x2))then(if 0≤x10 then(if x10 < (x0.size:Int)then(aG.l0 k x0 x1 x2 (wrap64 ((wrap64 (256 * x9))+(wrap64 (bt x0 x10)))) (wrap64 (x10+1)))else(none))else(none))else(some (x9,wrap64 (x1+x2),0))
end
def aG.f (k:Nat) (a0:ByteArray) (a1:Int) (a2:Int):Option (Int × Int × Int):=(cB.f a2).bind fun t101=> (if t101=true then(if a1 < 0 then(aG.j0 k a0 a1 a2 true)else(aG.j0 k a0 a1 a2 (decide (a1 > (a0.size:Int)))))else(aG.j0 k a0 a1 a2 true))
theorem aG.mono_l: ∀ k,(∀ y0 y1 y2 y3,LeO (aG.j0 k y0 y1 y2 y3) (aG.j0 (k+1) y0 y1 y2 y3))∧(∀ y0 y1 y2 y3,LeO (aG.j1 k y0 y1 y2 y3) (aG.j1 (k+1) y0 y1 y2 y3))∧(∀ y0 y1 y2 y3 y4,LeO (aG.l0 k y0 y1 y2 y3 y4) (aG.l0 (k+1) y0 y1 y2 y3 y4))
  |0=> ⟨fun _ _ _ _ r h=>by simp[aG.j0] at h,fun _ _ _ _ r h=>by simp[aG.j1] at h,fun _ _ _ _ _ r h=>by simp[aG.l0] at h⟩
  |k+1=>by
    obtain⟨ih0,ih1,ih2⟩:=aG.mono_l k
    refine⟨?_,?_,?_⟩
    · intro y0 y1 y2 y3
      unfold aG.j0
      repeat' (with_reducible first|exact ih0 _ _ _ _|exact ih1 _ _ _ _|exact ih2 _ _ _ _ _|exact LeO.refl _|exact LeO.none _|refine LeO.ite ?_ ?_|refine LeO.bind ?_ (fun _=>?_))
    · intro y0 y1 y2 y3
      unfold aG.j1
      repeat' (with_reducible first|exact ih0 _ _ _ _|exact ih1 _ _ _ _|exact ih2 _ _ _ _ _|exact LeO.refl _|exact LeO.none _|refine LeO.ite ?_ ?_|refine LeO.bind ?_ (fun _=>?_))
    intro y0 y1 y2 y3 y4
    unfold aG.l0
    repeat' (with_reducible first|exact ih0 _ _ _ _|exact ih1 _ _ _ _|exact ih2 _ _ _ _ _|exact LeO.refl _|exact LeO.none _|refine LeO.ite ?_ ?_|refine LeO.bind ?_ (fun _=>?_))
theorem aG.mono: ∀ a0 a1 a2 k,LeO (aG.f k a0 a1 a2) (aG.f (k+1) a0 a1 a2):=by
  intro a0 a1 a2 k
  obtain⟨ih0,ih1,ih2⟩:=aG.mono_l k
  unfold aG.f
  repeat' (with_reducible first|exact ih0 _ _ _ _|exact ih1 _ _ _ _|exact ih2 _ _ _ _ _|exact LeO.refl _|exact LeO.none _|refine LeO.ite ?_ ?_|refine LeO.bind ?_ (fun _=>?_))
theorem aG.calls (k:Nat) (a0:ByteArray) (a1:Int) (a2:Int) (r1:Int) (r2:Int) (r3:Int) (w:World) (h:aG.f k a0 a1 a2=some (r1,r2,r3)):
  Calls Try.prog 117 #[.string a0,.int .i64 a1,.int .i64 a2] w fun e w'=>e= .returned (.tuple #[.int .i64 r1,.int .i64 r2,.int .i64 r3])∧Drawn0 w w':=by
 have H:((cB.f a2).bind fun t101=> (if t101=true then(if a1 < 0 then(aG.j0 k a0 a1 a2 true)else(aG.j0 k a0 a1 a2 (decide (a1 > (a0.size:Int)))))else(aG.j0 k a0 a1 a2 true)))=some (r1,r2,r3):=h
 clear h
 have HC4:=zA H
 clear H
 go_enter Try.func117,Try.ntmps117
 go_upto_region 1 with(fail)
 go_cut[23] (fun v23 wc=> ∃ (kq:Nat) (x23_3:Bool),v23= .bool x23_3∧Aside0 (aG.j0 kq a0 a1 a2 x23_3=some (r1,r2,r3))∧Aside0 (kq≤k)∧Drawn0 w wc)
 case first=>
  have H:=HC4.out;clear HC4;obtain⟨t101,A5,H⟩:=qD_ H;(try dsimp only at H);by_cases c6:t101=true
  ·subst c6
   have H1:(if a1 < 0 then(aG.j0 k a0 a1 a2 true)else(aG.j0 k a0 a1 a2 (decide (a1 > (a0.size:Int)))))=some (r1,r2,r3):=by first|(rw[if_pos rfl] at H;exact H)|rfl
   clear H;have H:=H1;clear H1;by_cases c7:a1 < 0
   ·rw[if_pos c7] at H
    have c7b0:=zFq c7;clear c7;(first|rw[c7b0] |(simp only[i64_w,i32_w];rw[c7b0])|skip)
    have H':=zA H;clear H;go_wp2_with (first|((with_reducible refine zJq (f:=151) rfl ?_);refine goesL_ (some 12) rfl rfl Try.func151 (by kernel_rfl) rfl #[.int .i64 a2] rfl qG ?_;(with_reducible refine(cB.calls a2 true _ A5.out).mono ?_);rintro e w' ⟨rfl,⟨nd,rfl⟩⟩;refine⟨_,rfl,?_⟩));go_meet
    case rel=>exact⟨_,(true),qF_,H',⟨by first|omega|exact Nat.le_refl _⟩,by repeat(first|exact Drawn0.refl _|apply Drawn0.step)⟩
   rw[if_neg c7] at H;have c7b0:=zGq c7;clear c7;(first|rw[c7b0] |(simp only[i64_w,i32_w];rw[c7b0])|skip)
   have H':=zA H;clear H;go_wp2_with (first|((with_reducible refine zJq (f:=151) rfl ?_);refine goesL_ (some 12) rfl rfl Try.func151 (by kernel_rfl) rfl #[.int .i64 a2] rfl qG ?_;(with_reducible refine(cB.calls a2 true _ A5.out).mono ?_);rintro e w' ⟨rfl,⟨nd,rfl⟩⟩;refine⟨_,rfl,?_⟩));go_meet
   case rel=>exact⟨_,(decide (a1 > (a0.size:Int))),qF_,H',⟨by first|omega|exact Nat.le_refl _⟩,by repeat(first|exact Drawn0.refl _|apply Drawn0.step)⟩
  replace c6:=Bool.eq_false_iff.mpr c6;subst c6;have H1:(aG.j0 k a0 a1 a2 true)=some (r1,r2,r3):=by first|(rw[if_neg (show ¬ (false=true) by decide)] at H;exact H)|rfl
  clear H;have H:=H1;clear H1;have H':=zA H;clear H;go_wp2_with (first|((with_reducible refine zJq (f:=151) rfl ?_);refine goesL_ (some 12) rfl rfl Try.func151 (by kernel_rfl) rfl #[.int .i64 a2] rfl qG ?_;(with_reducible refine(cB.calls a2 false _ A5.out).mono ?_);rintro e w' ⟨rfl,⟨nd,rfl⟩⟩;refine⟨_,rfl,?_⟩));go_meet
  case rel=>exact⟨_,(true),qF_,H',⟨by first|omega|exact Nat.le_refl _⟩,by repeat(first|exact Drawn0.refl _|apply Drawn0.step)⟩
 case rest=>
  clear HC4;try clear c1
  try clear p2
  try clear c6
  try clear c7
  try clear c7b0
  obtain⟨kq,x23_3,rfl,HA,HJ3,⟨mc3,rfl⟩⟩:=hcut;cases kq with
  |zero=>exact absurd HA.out (by simp[aG.j0])
  |succ kj3=>
   have H:=HA.out;clear HA;simp only[aG.j0] at H;by_cases c8:x23_3=true
   ·subst c8
    have H1:(some (0,0,2))=some (r1,r2,r3):=by first|(rw[if_pos rfl] at H;exact H)|rfl
    clear H;have H:=H1;clear H1;simp only[zNq,zOq] at H;obtain⟨rfl,rfl,rfl⟩:=H;go_wp2;go_ret3;exact⟨by first|rfl|(simp;done)|(simp[*];done),by repeat(first|exact Drawn0.refl _|apply Drawn0.step)⟩
   replace c8:=Bool.eq_false_iff.mpr c8;subst c8;have H1:(if(wrap64 ((a0.size:Int) - a1)) < a2 then(some (0,0,4))else(if a2=8 then(if 0≤a1 then(if a1 < (a0.size:Int)then(aG.j1 kj3 a0 a1 a2 (decide ((bt a0 a1) > 127)))else(none))else(none))else(aG.j1 kj3 a0 a1 a2 false)))=some (r1,r2,r3):=by first|(rw[if_neg (show ¬ (false=true) by decide)] at H;exact H)|rfl
   clear H;have H:=H1;clear H1;by_cases c9:(wrap64 ((a0.size:Int) - a1)) < a2
   ·rw[if_pos c9] at H
    have c9b0:=zFq c9;clear c9;simp only[zNq,zOq] at H;obtain⟨rfl,rfl,rfl⟩:=H;go_wp2;go_ret3;exact⟨by first|rfl|(simp;done)|(simp[*];done),by repeat(first|exact Drawn0.refl _|apply Drawn0.step)⟩
   rw[if_neg c9] at H;have c9b0:=zGq c9;clear c9;have HC10:=zA H;clear H;go_upto_region 5 with(fail)
   go_cut[37] (fun v37 wc=> ∃ (kq:Nat) (x37_9:Bool),v37= .bool x37_9∧Aside0 (aG.j1 kq a0 a1 a2 x37_9=some (r1,r2,r3))∧Aside0 (kq≤kj3)∧Drawn0 w wc)
   case first=>
    have H:=HC10.out;clear HC10;by_cases c11:a2=8
    ·rw[if_pos c11] at H
     have c11b0:(a2==8)=true:=beq_iff_eq.mpr c11;have c11b1:(a2 != 8)=false:=bne_eq_false_iff_eq.mpr c11;clear c11;(first|rw[c11b0] |(simp only[i64_w,i32_w];rw[c11b0])|skip)
     by_cases c12:0≤a1
     ·rw[if_pos c12] at H
      have c12b0:=zFq c12;clear c12;by_cases c13:a1 < (a0.size:Int)
      ·rw[if_pos c13] at H
       have c13b0:=zFq c13;clear c13;have H':=zA H;clear H;have p14:0≤(a1:Int):=qO_;have q14:a1 < (a0.size:Int):=qO_;have hx14:=bt_at a0 a1;replace p14:=eq_true p14;replace q14:=eq_true q14;go_wp2;go_meet
       case rel=>exact⟨_,(decide ((bt a0 a1) > 127)),qF_,H',⟨by have:=HJ3.out;first|omega|exact Nat.le_refl _⟩,by repeat(first|exact Drawn0.refl _|apply Drawn0.step)⟩
      rw[if_neg c13] at H;exact absurd H (by simp)
     rw[if_neg c12] at H;exact absurd H (by simp)
    rw[if_neg c11] at H;have c11b0:(a2==8)=false:=beq_eq_false_iff_ne.mpr c11;have c11b1:(a2 != 8)=true:=bne_iff_ne.mpr c11;(first|rw[c11b0] |(simp only[i64_w,i32_w];rw[c11b0])|skip)
    have H':=zA H;clear H;go_wp2;go_meet
    case rel=>exact⟨_,(false),qF_,H',⟨by have:=HJ3.out;first|omega|exact Nat.le_refl _⟩,by repeat(first|exact Drawn0.refl _|apply Drawn0.step)⟩
   case rest=>
    clear HC10;try clear c1
    try clear p1
    try clear q1
    try clear hx1
    try clear p2
    try clear c3
    try clear c6
    try clear p6
    try clear c7
    try clear c7b0
    try clear c8
    try clear c9
    try clear c9b0
    try clear c11
    try clear c11b0
    try clear c11b1
    try clear c12
    try clear c12b0
    try clear c13
    try clear c13b0
    try clear p14
    try clear q14
    try clear hx14
    try clear p14
    try clear p2
    try clear q14
    obtain⟨kq,x37_9,rfl,HA,HJ9,⟨mc9,rfl⟩⟩:=hcut;cases kq with
    |zero=>exact absurd HA.out (by simp[aG.j1])
    |succ kj9=>
     have H:=HA.out;clear HA;simp only[aG.j1] at H;by_cases c15:x37_9=true
     ·subst c15
      have H1:(some (0,0,8))=some (r1,r2,r3):=by first|(rw[if_pos rfl] at H;exact H)|rfl
      clear H;have H:=H1;clear H1;simp only[zNq,zOq] at H;obtain⟨rfl,rfl,rfl⟩:=H;go_wp2;go_ret3;exact⟨by first|rfl|(simp;done)|(simp[*];done),by repeat(first|exact Drawn0.refl _|apply Drawn0.step)⟩
     replace c15:=Bool.eq_false_iff.mpr c15;subst c15;have H1:(aG.l0 kj9 a0 a1 a2 0 a1)=some (r1,r2,r3):=by first|(rw[if_neg (show ¬ (false=true) by decide)] at H;exact H)|rfl
     clear H;have H:=H1;clear H1;have H':=zA H;clear H;go_wp2;go_loopg[9,10] kj9 (fun kq v9 v10 w'=> ∃ (x9_3:Int) (x10_3:Int),v9= .int .i64 x9_3∧v10= .int .i64 x10_3∧Aside0 (aG.l0 kq a0 a1 a2 x9_3 x10_3=some (r1,r2,r3))∧Aside0 (kq≤kj9)∧Drawn0 w w')
     case atStart=>exact⟨(0),(a1),qF_,qF_,H',⟨Nat.le_refl _⟩,by repeat(first|exact Drawn0.refl _|apply Drawn0.step)⟩
     case round=>
      clear H';try clear c1
      try clear p1
      try clear q1
      try clear hx1
      try clear p2
      try clear c3
      try clear c6
      try clear p6
      try clear c7
      try clear c7b0
      try clear c8
      try clear c9
      try clear c9b0
      try clear c11
      try clear c11b0
      try clear c11b1
      try clear c12
      try clear c12b0
      try clear c13
      try clear c13b0
      try clear p14
      try clear q14
      try clear hx14
      try clear c15
      try clear p1
      try clear p14
      try clear p2
      try clear p6
      try clear q1
      try clear q14
      obtain⟨x9_3,x10_3,rfl,rfl,HA,HK3,⟨m3,rfl⟩⟩:=hrel;cases gk with
      |zero=>exact absurd HA.out (by simp[aG.l0])
      |succ k3=>
       have H:=HA.out;clear HA;simp only[aG.l0] at H;by_cases c16:x10_3 < (wrap64 (a1+a2))
       ·rw[if_pos c16] at H
        have c16b0:=zFq c16;clear c16;by_cases c17:0≤x10_3
        ·rw[if_pos c17] at H
         have c17b0:=zFq c17;clear c17;by_cases c18:x10_3 < (a0.size:Int)
         ·rw[if_pos c18] at H
          have c18b0:=zFq c18;clear c18;have H':=zA H;clear H;have p19:0≤(x10_3:Int):=qO_;have q19:x10_3 < (a0.size:Int):=qO_;have hx19:=bt_at a0 x10_3;replace p19:=eq_true p19;replace q19:=eq_true q19;go_wp2;go_roundg k3
          case measure=>have:=HJ3.out;have:=HJ9.out;have:=HK3.out;omega
          case rel=>exact⟨(wrap64 ((wrap64 (256 * x9_3))+(wrap64 (bt a0 x10_3)))),(wrap64 (x10_3+1)),qF_,qF_,H',⟨by have:=HJ3.out;have:=HJ9.out;have:=HK3.out;omega⟩,by repeat(first|exact Drawn0.refl _|apply Drawn0.step)⟩
         rw[if_neg c18] at H;exact absurd H (by simp)
        rw[if_neg c17] at H;exact absurd H (by simp)
       rw[if_neg c16] at H;have c16b0:=zGq c16;clear c16;simp only[zNq,zOq] at H;obtain⟨rfl,rfl,rfl⟩:=H;go_wp2;go_ret3;exact⟨by first|rfl|(simp;done)|(simp[*];done),by repeat(first|exact Drawn0.refl _|apply Drawn0.step)⟩
def bV.f (a0_0:ByteArray) (a0_1:Int) (a0_2:Int) (a1:Int) (a2:Int):Option (ByteArray × Int × Int):=if a2=0 then(some (a0_0,a1,a0_2))else(some (a0_0,a0_1,a2))
theorem bV.calls (a0_0:ByteArray) (a0_1:Int) (a0_2:Int) (a1:Int) (a2:Int) (r1:ByteArray) (r2:Int) (r3:Int) (w:World) (h:bV.f a0_0 a0_1 a0_2 a1 a2=some (r1,r2,r3)):
  Calls Try.prog 118 #[.agg #[.string a0_0,.int .i64 a0_1,.int .i64 a0_2],.int .i64 a1,.int .i64 a2] w fun e w'=>e= .returned (.agg #[.string r1,.int .i64 r2,.int .i64 r3])∧Below w.heap.size w w':=by
 have hu33:=Try.underlying33
 have HB:=zA (Below.refl w.heap.size w)
 have H:(if a2=0 then(some (a0_0,a1,a0_2))else(some (a0_0,a0_1,a2)))=some (r1,r2,r3):=h
 clear h
 by_cases c4:a2=0
 ·rw[if_pos c4] at H
  have c4b0:(a2==0)=true:=beq_iff_eq.mpr c4;have c4b1:(a2 != 0)=false:=bne_eq_false_iff_eq.mpr c4;clear c4;simp only[zNq,zOq] at H;obtain⟨rfl,rfl,rfl⟩:=H;go_enter Try.func118,Try.ntmps118;go_wp2_with (first|((with_reducible refine gate_dst (N:=3) rfl ?_);refine box_event qr (N:=3) qr (cs:= #[.string a0_0,.int .i64 a0_1,.int .i64 a0_2]) (t:=33) qg ?_;intro gb101 hg w5 hbox hb;have BK101:=zA (hbox);have GW101:=zA ((qS:w.heap.size≤gb101));have GE101:=zA ((qS:w.heap.size≤gb101));replace HB:=zA (zV qB hb);clear hb hbox hg)|((with_reducible refine gate_dst (N:=6) rfl ?_);refine box_event qr (N:=6) qr (cs:= #[.string (⟨#[]⟩:ByteArray),.int .i64 0,.int .i64 0]) (t:=33) qg ?_;intro gb102 hg w6 hbox hb;have BK102:=zA (hbox);have GW102:=zA ((qS:w.heap.size≤gb102));have GE102:=zA ((qS:w.heap.size≤gb102));replace HB:=zA (zV qB hb);have NB101_102:=zA ((by rw[hg];exact zLq (qL BK101.out):gb101≠gb102));have NB102_101:=zA ((by rw[hg];exact zMq (qL BK101.out):gb102≠gb101));replace BK101:=zA (qX BK101.out hb);clear hb hbox hg;have hnb7:=NB101_102.out;have hnc7:=NB102_101.out;obtain⟨_,_,_,_,_,_⟩:=qc3f BK101.out;obtain⟨_,_,_,_,_,_⟩:=qc3f BK102.out));refine bodyPost_ret (results_cell_row rfl _ _ gb102 33 #[.string a0_0,.int .i64 a1,.int .i64 a0_2] (0,0) _ rfl (qV BK102.out) Try.underlying33 rfl (by kernel_rfl)) rfl ?_;exact⟨qE,qB⟩
 rw[if_neg c4] at H
 have c4b0:(a2==0)=false:=beq_eq_false_iff_ne.mpr c4
 have c4b1:(a2 != 0)=true:=bne_iff_ne.mpr c4
 simp only[zNq,zOq] at H
 obtain⟨rfl,rfl,rfl⟩:=H
 go_enter Try.func118,Try.ntmps118
 go_wp2_with (first|((with_reducible refine gate_dst (N:=3) rfl ?_);refine box_event qr (N:=3) qr (cs:= #[.string a0_0,.int .i64 a0_1,.int .i64 a0_2]) (t:=33) qg ?_;intro gb101 hg w10 hbox hb;have BK101:=zA (hbox);have GW101:=zA ((qS:w.heap.size≤gb101));have GE101:=zA ((qS:w.heap.size≤gb101));replace HB:=zA (zV qB hb);clear hb hbox hg)|((with_reducible refine gate_dst (N:=6) rfl ?_);refine box_event qr (N:=6) qr (cs:= #[.string (⟨#[]⟩:ByteArray),.int .i64 0,.int .i64 0]) (t:=33) qg ?_;intro gb102 hg w11 hbox hb;have BK102:=zA (hbox);have GW102:=zA ((qS:w.heap.size≤gb102));have GE102:=zA ((qS:w.heap.size≤gb102));replace HB:=zA (zV qB hb);have NB101_102:=zA ((by rw[hg];exact zLq (qL BK101.out):gb101≠gb102));have NB102_101:=zA ((by rw[hg];exact zMq (qL BK101.out):gb102≠gb101));replace BK101:=zA (qX BK101.out hb);clear hb hbox hg;have hnb12:=NB101_102.out;have hnc12:=NB102_101.out;obtain⟨_,_,_,_,_,_⟩:=qc3f BK101.out;obtain⟨_,_,_,_,_,_⟩:=qc3f BK102.out))
 refine bodyPost_ret (results_cell_row rfl _ _ gb102 33 #[.string a0_0,.int .i64 a0_1,.int .i64 a2] (0,0) _ rfl (qV BK102.out) Try.underlying33 rfl (by kernel_rfl)) rfl ?_
 exact⟨qE,qB⟩
def aZ.j0:Nat→Int→Int→Int→Bool→ByteArray→Int→Int→Option (ByteArray × Int × Int × Int)
  |0,_,_,_,_,_,_,_=>none
  |k+1,x8,x9,x10,x31,x102000,x102001,x102002=>if x31=true then((bV.f x102000 x102001 x102002 x9 3).bind fun bt106=> (some (bt106.1,bt106.2.1,bt106.2.2,0)))else(if x10=0 then((bV.f x102000 x102001 x102002 x9 x10).bind fun bt109=> (some (bt109.1,bt109.2.1,bt109.2.2,x8)))else((bV.f x102000 x102001 x102002 x9 x10).bind fun bt112=> (some (bt112.1,bt112.2.1,bt112.2.2,0))))
def aZ.f (k:Nat) (a0_0:ByteArray) (a0_1:Int) (a0_2:Int) (a1:Int) (a2:Int):Option (ByteArray × Int × Int × Int):=if a0_2=0 then((aG.f k a0_0 a0_1 a1).bind fun bt103=> (if bt103.2.2=0 then(aZ.j0 k bt103.1 bt103.2.1 bt103.2.2 (decide (bt103.1 > a2)) a0_0 a0_1 a0_2)else(aZ.j0 k bt103.1 bt103.2.1 bt103.2.2 false a0_0 a0_1 a0_2)))else(some (a0_0,a0_1,a0_2,0))
theorem aZ.mono_l: ∀ k,(∀ y0 y1 y2 y3 y4 y5 y6,LeO (aZ.j0 k y0 y1 y2 y3 y4 y5 y6) (aZ.j0 (k+1) y0 y1 y2 y3 y4 y5 y6))
  |0=>fun _ _ _ _ _ _ _ r h=>by simp[aZ.j0] at h
  |k+1=>by
    have ih0:=aZ.mono_l k
    intro y0 y1 y2 y3 y4 y5 y6
    unfold aZ.j0
    repeat' (with_reducible first|exact ih0 _ _ _ _ _ _ _|exact aG.mono _ _ _ _|exact LeO.refl _|exact LeO.none _|refine LeO.ite ?_ ?_|refine LeO.bind ?_ (fun _=>?_))
theorem aZ.mono: ∀ a0 a1 a2 a3 a4 k,LeO (aZ.f k a0 a1 a2 a3 a4) (aZ.f (k+1) a0 a1 a2 a3 a4):=by
  intro a0 a1 a2 a3 a4 k
  have ih0:=aZ.mono_l k
  unfold aZ.f
  repeat' (with_reducible first|exact ih0 _ _ _ _ _ _ _|exact aG.mono _ _ _ _|exact LeO.refl _|exact LeO.none _|refine LeO.ite ?_ ?_|refine LeO.bind ?_ (fun _=>?_))
theorem aZ.calls (k:Nat) (a0_0:ByteArray) (a0_1:Int) (a0_2:Int) (a1:Int) (a2:Int) (r1:ByteArray) (r2:Int) (r3:Int) (r4:Int) (w:World) (h:aZ.f k a0_0 a0_1 a0_2 a1 a2=some (r1,r2,r3,r4)):
  Calls Try.prog 64 #[.agg #[.string a0_0,.int .i64 a0_1,.int .i64 a0_2],.int .i64 a1,.int .i64 a2] w fun e w'=>e= .returned (.tuple #[.agg #[.string r1,.int .i64 r2,.int .i64 r3],.int .i64 r4])∧Below w.heap.size w w':=by
 have hu33:=Try.underlying33
 have HB:=zA (Below.refl w.heap.size w)
 have H:(if a0_2=0 then((aG.f k a0_0 a0_1 a1).bind fun bt103=> (if bt103.2.2=0 then(aZ.j0 k bt103.1 bt103.2.1 bt103.2.2 (decide (bt103.1 > a2)) a0_0 a0_1 a0_2)else(aZ.j0 k bt103.1 bt103.2.1 bt103.2.2 false a0_0 a0_1 a0_2)))else(some (a0_0,a0_1,a0_2,0)))=some (r1,r2,r3,r4):=h
 clear h
 by_cases c4:a0_2=0
 ·rw[if_pos c4] at H
  have c4b0:(a0_2==0)=true:=beq_iff_eq.mpr c4;have c4b1:(a0_2 != 0)=false:=bne_eq_false_iff_eq.mpr c4;clear c4;obtain⟨⟨t103,t104,t105⟩,A5,H⟩:=qD_ H;(try dsimp only at H);have HC6:=zA H;clear H;go_enter Try.func64,Try.ntmps64;go_upto_region 4 with(first|((with_reducible refine gate_dst (N:=3) rfl ?_);refine box_event qr (N:=3) qr (cs:= #[.string a0_0,.int .i64 a0_1,.int .i64 a0_2]) (t:=33) qg ?_;intro gb101 hg w7 hbox hb;have BK101:=zA (hbox);have GW101:=zA ((qS:w.heap.size≤gb101));have GE101:=zA ((qS:w.heap.size≤gb101));replace HB:=zA (zV qB hb);clear hb hbox hg)|((with_reducible refine gate_dst (N:=6) rfl ?_);refine box_event qr (N:=6) qr (cs:= #[.string (⟨#[]⟩:ByteArray),.int .i64 0,.int .i64 0]) (t:=33) qg ?_;intro gb102 hg w8 hbox hb;have BK102:=zA (hbox);have GW102:=zA ((qS:w.heap.size≤gb102));have GE102:=zA ((qS:w.heap.size≤gb102));replace HB:=zA (zV qB hb);have NB101_102:=zA ((by rw[hg];exact zLq (qL BK101.out):gb101≠gb102));have NB102_101:=zA ((by rw[hg];exact zMq (qL BK101.out):gb102≠gb101));replace BK101:=zA (qX BK101.out hb);clear hb hbox hg;have hnb9:=NB101_102.out;have hnc9:=NB102_101.out;obtain⟨_,_,_,_,_,_⟩:=qc3f BK101.out)|((with_reducible refine zJq (f:=117) rfl ?_);refine goesL_ (some 21) rfl rfl Try.func117 (by kernel_rfl) rfl #[.string a0_0,.int .i64 a0_1,.int .i64 a1] rfl qG ?_;(with_reducible refine(aG.calls k a0_0 a0_1 a1 t103 t104 t105 _ A5.out).mono ?_);rintro e w' ⟨rfl,⟨nd,rfl⟩⟩;refine⟨_,rfl,?_⟩))
  (try simp only[Act.put,zH,zI,zJ])
  go_cut[31] (fun v31 wc=> ∃ (kq:Nat) (x31_5:Bool),v31= .bool x31_5∧Aside0 (aZ.j0 kq t103 t104 t105 x31_5 a0_0 a0_1 a0_2=some (r1,r2,r3,r4))∧Aside0 (kq≤k)∧Aside0 (wc.heap[gb101]? =some (.cells #[.string a0_0,.int .i64 a0_1,.int .i64 a0_2] 33 (0,0)))∧Aside0 (wc.heap[gb102]? =some (.cells #[.string (⟨#[]⟩:ByteArray),.int .i64 0,.int .i64 0] 33 (0,0)))∧Aside0 (Below w.heap.size w wc))
  case first=>
   have H:=HC6.out;clear HC6;by_cases c11:t105=0
   ·rw[if_pos c11] at H
    have c11b0:(t105==0)=true:=beq_iff_eq.mpr c11;have c11b1:(t105 != 0)=false:=bne_eq_false_iff_eq.mpr c11;clear c11;(first|rw[c11b0] |(simp only[i64_w,i32_w];rw[c11b0])|skip)
    have H':=zA H;clear H;go_wp2;go_meet
    case rel=>exact⟨_,(decide (t103 > a2)),qF_,H',⟨by first|omega|exact Nat.le_refl _⟩,⟨by exact BK101.out⟩,⟨by exact BK102.out⟩,⟨qB⟩⟩
   rw[if_neg c11] at H;have c11b0:(t105==0)=false:=beq_eq_false_iff_ne.mpr c11;have c11b1:(t105 != 0)=true:=bne_iff_ne.mpr c11;(first|rw[c11b0] |(simp only[i64_w,i32_w];rw[c11b0])|skip)
   have H':=zA H;clear H;go_wp2;go_meet
   case rel=>exact⟨_,(false),qF_,H',⟨by first|omega|exact Nat.le_refl _⟩,⟨by exact BK101.out⟩,⟨by exact BK102.out⟩,⟨qB⟩⟩
  case rest=>
   clear HC6;try clear c1
   try clear p2
   try clear c4
   try clear c4b0
   try clear c4b1
   try clear c6
   try clear c9
   try clear c11
   try clear c11b0
   try clear c11b1
   obtain⟨kq,x31_5,rfl,HA,HJ5,BK101,BK102,HB⟩:=hcut;cases kq with
   |zero=>exact absurd HA.out (by simp[aZ.j0])
   |succ kj5=>
    have H:=HA.out;clear HA;simp only[aZ.j0] at H;by_cases c12:x31_5=true
    ·subst c12
     have H1:((bV.f a0_0 a0_1 a0_2 t104 3).bind fun bt106=> (some (bt106.1,bt106.2.1,bt106.2.2,0)))=some (r1,r2,r3,r4):=by first|(rw[if_pos rfl] at H;exact H)|rfl
     clear H;have H:=H1;clear H1;obtain⟨⟨t106,t107,t108⟩,A13,H⟩:=qD_ H;(try dsimp only at H);simp only[zNq,zOq] at H;obtain⟨rfl,rfl,rfl,rfl⟩:=H;have hnb14:=NB101_102.out;have hnc14:=NB102_101.out;obtain⟨_,_,_,_,_,_⟩:=qc3f BK101.out;go_wp2_with (first|((with_reducible refine zJq (f:=118) rfl ?_);refine goesL_ (some 37) rfl rfl Try.func118 (by kernel_rfl) rfl #[.agg #[.string a0_0,.int .i64 a0_1,.int .i64 a0_2],.int .i64 t104,.int .i64 3] rfl qG ?_;(with_reducible refine(bV.calls a0_0 a0_1 a0_2 t104 3 t106 t107 t108 _ A13.out).mono ?_);rintro e w16 ⟨rfl,hb⟩;refine⟨_,rfl,?_⟩;replace BK101:=zA (qX BK101.out hb);replace BK102:=zA (qX BK102.out hb);replace HB:=zA (zV qB hb);(try clear hb);obtain⟨_,_,_,_,_,_⟩:=qc3f BK102.out));refine bodyPost_ret (results_ct rfl _ _ gb102 33 #[.string t106,.int .i64 t107,.int .i64 t108] (0,0) _ rfl (qV BK102.out) Try.underlying33 rfl (by kernel_rfl)) rfl ?_;exact⟨qE,qB⟩
    replace c12:=Bool.eq_false_iff.mpr c12;subst c12;have H1:(if t105=0 then((bV.f a0_0 a0_1 a0_2 t104 t105).bind fun bt109=> (some (bt109.1,bt109.2.1,bt109.2.2,t103)))else((bV.f a0_0 a0_1 a0_2 t104 t105).bind fun bt112=> (some (bt112.1,bt112.2.1,bt112.2.2,0))))=some (r1,r2,r3,r4):=by first|(rw[if_neg (show ¬ (false=true) by decide)] at H;exact H)|rfl
    clear H;have H:=H1;clear H1;by_cases c18:t105=0
    ·rw[if_pos c18] at H
     have c18b0:(t105==0)=true:=beq_iff_eq.mpr c18;have c18b1:(t105 != 0)=false:=bne_eq_false_iff_eq.mpr c18;clear c18;obtain⟨⟨t109,t110,t111⟩,A19,H⟩:=qD_ H;(try dsimp only at H);simp only[zNq,zOq] at H;obtain⟨rfl,rfl,rfl,rfl⟩:=H;have hnb20:=NB101_102.out;have hnc20:=NB102_101.out;obtain⟨_,_,_,_,_,_⟩:=qc3f BK101.out;go_wp2_with (first|((with_reducible refine zJq (f:=118) rfl ?_);refine goesL_ (some 37) rfl rfl Try.func118 (by kernel_rfl) rfl #[.agg #[.string a0_0,.int .i64 a0_1,.int .i64 a0_2],.int .i64 t104,.int .i64 t105] rfl qG ?_;(with_reducible refine(bV.calls a0_0 a0_1 a0_2 t104 t105 t109 t110 t111 _ A19.out).mono ?_);rintro e w22 ⟨rfl,hb⟩;refine⟨_,rfl,?_⟩;replace BK101:=zA (qX BK101.out hb);replace BK102:=zA (qX BK102.out hb);replace HB:=zA (zV qB hb);(try clear hb);obtain⟨_,_,_,_,_,_⟩:=qc3f BK102.out));refine bodyPost_ret (results_ct rfl _ _ gb102 33 #[.string t109,.int .i64 t110,.int .i64 t111] (0,0) _ rfl (qV BK102.out) Try.underlying33 rfl (by kernel_rfl)) rfl ?_;exact⟨qE,qB⟩
    rw[if_neg c18] at H;have c18b0:(t105==0)=false:=beq_eq_false_iff_ne.mpr c18;have c18b1:(t105 != 0)=true:=bne_iff_ne.mpr c18;obtain⟨⟨t112,t113,t114⟩,A24,H⟩:=qD_ H;(try dsimp only at H);simp only[zNq,zOq] at H;obtain⟨rfl,rfl,rfl,rfl⟩:=H;have hnb25:=NB101_102.out;have hnc25:=NB102_101.out;obtain⟨_,_,_,_,_,_⟩:=qc3f BK101.out;go_wp2_with (first|((with_reducible refine zJq (f:=118) rfl ?_);refine goesL_ (some 37) rfl rfl Try.func118 (by kernel_rfl) rfl #[.agg #[.string a0_0,.int .i64 a0_1,.int .i64 a0_2],.int .i64 t104,.int .i64 t105] rfl qG ?_;(with_reducible refine(bV.calls a0_0 a0_1 a0_2 t104 t105 t112 t113 t114 _ A24.out).mono ?_);rintro e w27 ⟨rfl,hb⟩;refine⟨_,rfl,?_⟩;replace BK101:=zA (qX BK101.out hb);replace BK102:=zA (qX BK102.out hb);replace HB:=zA (zV qB hb);(try clear hb);obtain⟨_,_,_,_,_,_⟩:=qc3f BK102.out));refine bodyPost_ret (results_ct rfl _ _ gb102 33 #[.string t112,.int .i64 t113,.int .i64 t114] (0,0) _ rfl (qV BK102.out) Try.underlying33 rfl (by kernel_rfl)) rfl ?_;exact⟨qE,qB⟩
 rw[if_neg c4] at H
 have c4b0:(a0_2==0)=false:=beq_eq_false_iff_ne.mpr c4
 have c4b1:(a0_2 != 0)=true:=bne_iff_ne.mpr c4
 simp only[zNq,zOq] at H
 obtain⟨rfl,rfl,rfl,rfl⟩:=H
 go_enter Try.func64,Try.ntmps64
 go_wp2_with (first|((with_reducible refine gate_dst (N:=3) rfl ?_);refine box_event qr (N:=3) qr (cs:= #[.string a0_0,.int .i64 a0_1,.int .i64 a0_2]) (t:=33) qg ?_;intro gb101 hg w29 hbox hb;have BK101:=zA (hbox);have GW101:=zA ((qS:w.heap.size≤gb101));have GE101:=zA ((qS:w.heap.size≤gb101));replace HB:=zA (zV qB hb);clear hb hbox hg)|((with_reducible refine gate_dst (N:=6) rfl ?_);refine box_event qr (N:=6) qr (cs:= #[.string (⟨#[]⟩:ByteArray),.int .i64 0,.int .i64 0]) (t:=33) qg ?_;intro gb102 hg w30 hbox hb;have BK102:=zA (hbox);have GW102:=zA ((qS:w.heap.size≤gb102));have GE102:=zA ((qS:w.heap.size≤gb102));replace HB:=zA (zV qB hb);have NB101_102:=zA ((by rw[hg];exact zLq (qL BK101.out):gb101≠gb102));have NB102_101:=zA ((by rw[hg];exact zMq (qL BK101.out):gb102≠gb101));replace BK101:=zA (qX BK101.out hb);clear hb hbox hg;have hnb31:=NB101_102.out;have hnc31:=NB102_101.out;obtain⟨_,_,_,_,_,_⟩:=qc3f BK101.out;obtain⟨_,_,_,_,_,_⟩:=qc3f BK102.out))
 refine bodyPost_ret (results_ct rfl _ _ gb102 33 #[.string a0_0,.int .i64 a0_1,.int .i64 a0_2] (0,0) _ rfl (qV BK102.out) Try.underlying33 rfl (by kernel_rfl)) rfl ?_
 exact⟨qE,qB⟩
def bE.j0:Nat→ByteArray→Int→Int→Bool→Option (ByteArray × Int × Int)
  |0,_,_,_,_=>none
  |k+1,x0,x1,x2,x23=>if x23=true then(some ((⟨#[]⟩:ByteArray),0,2))else((aG.f k x0 x1 2).bind fun bt101=> (if bt101.2.2=0 then(if bt101.1 > x2 then(some ((⟨#[]⟩:ByteArray),0,3))else(if(wrap64 (bt101.2.1+bt101.1)) > (x0.size:Int)then(some ((⟨#[]⟩:ByteArray),0,4))else(if 0≤bt101.2.1 then(if bt101.2.1≤(wrap64 (bt101.2.1+bt101.1))then(if(wrap64 (bt101.2.1+bt101.1))≤(x0.size:Int)then(some (x0.extract (bt101.2.1:Int).toNat ((wrap64 (bt101.2.1+bt101.1)):Int).toNat,wrap64 (bt101.2.1+bt101.1),0))else(none))else(none))else(none))))else(some ((⟨#[]⟩:ByteArray),0,bt101.2.2))))
def bE.f (k:Nat) (a0:ByteArray) (a1:Int) (a2:Int):Option (ByteArray × Int × Int):=if a2 < 0 then(bE.j0 k a0 a1 a2 true)else(if a1 < 0 then(bE.j0 k a0 a1 a2 true)else(bE.j0 k a0 a1 a2 (decide (a1 > (a0.size:Int)))))
theorem bE.mono_l: ∀ k,(∀ y0 y1 y2 y3,LeO (bE.j0 k y0 y1 y2 y3) (bE.j0 (k+1) y0 y1 y2 y3))
  |0=>fun _ _ _ _ r h=>by simp[bE.j0] at h
  |k+1=>by
    have ih0:=bE.mono_l k
    intro y0 y1 y2 y3
    unfold bE.j0
    repeat' (with_reducible first|exact ih0 _ _ _ _|exact aG.mono _ _ _ _|exact LeO.refl _|exact LeO.none _|refine LeO.ite ?_ ?_|refine LeO.bind ?_ (fun _=>?_))
theorem bE.mono: ∀ a0 a1 a2 k,LeO (bE.f k a0 a1 a2) (bE.f (k+1) a0 a1 a2):=by
  intro a0 a1 a2 k
  have ih0:=bE.mono_l k
  unfold bE.f
  repeat' (with_reducible first|exact ih0 _ _ _ _|exact aG.mono _ _ _ _|exact LeO.refl _|exact LeO.none _|refine LeO.ite ?_ ?_|refine LeO.bind ?_ (fun _=>?_))
theorem bE.calls (k:Nat) (a0:ByteArray) (a1:Int) (a2:Int) (r1:ByteArray) (r2:Int) (r3:Int) (w:World) (h:bE.f k a0 a1 a2=some (r1,r2,r3)):
  Calls Try.prog 119 #[.string a0,.int .i64 a1,.int .i64 a2] w fun e w'=>e= .returned (.tuple #[.string r1,.int .i64 r2,.int .i64 r3])∧Drawn0 w w':=by
 have H:(if a2 < 0 then(bE.j0 k a0 a1 a2 true)else(if a1 < 0 then(bE.j0 k a0 a1 a2 true)else(bE.j0 k a0 a1 a2 (decide (a1 > (a0.size:Int))))))=some (r1,r2,r3):=h
 clear h
 have HC4:=zA H
 clear H
 go_enter Try.func119,Try.ntmps119
 go_upto_region 1 with(fail)
 go_cut[23] (fun v23 wc=> ∃ (kq:Nat) (x23_3:Bool),v23= .bool x23_3∧Aside0 (bE.j0 kq a0 a1 a2 x23_3=some (r1,r2,r3))∧Aside0 (kq≤k)∧Drawn0 w wc)
 case first=>
  have H:=HC4.out;clear HC4;by_cases c5:a2 < 0
  ·rw[if_pos c5] at H
   have c5b0:=zFq c5;clear c5;(first|rw[c5b0] |(simp only[i64_w,i32_w];rw[c5b0])|skip)
   have H':=zA H;clear H;go_wp2;go_meet
   case rel=>exact⟨_,(true),qF_,H',⟨by first|omega|exact Nat.le_refl _⟩,by repeat(first|exact Drawn0.refl _|apply Drawn0.step)⟩
  rw[if_neg c5] at H;have c5b0:=zGq c5;clear c5;(first|rw[c5b0] |(simp only[i64_w,i32_w];rw[c5b0])|skip)
  by_cases c6:a1 < 0
  ·rw[if_pos c6] at H
   have c6b0:=zFq c6;clear c6;have H':=zA H;clear H;go_wp2;go_meet
   case rel=>exact⟨_,(true),qF_,H',⟨by first|omega|exact Nat.le_refl _⟩,by repeat(first|exact Drawn0.refl _|apply Drawn0.step)⟩
  rw[if_neg c6] at H;have c6b0:=zGq c6;clear c6;have H':=zA H;clear H;go_wp2;go_meet
  case rel=>exact⟨_,(decide (a1 > (a0.size:Int))),qF_,H',⟨by first|omega|exact Nat.le_refl _⟩,by repeat(first|exact Drawn0.refl _|apply Drawn0.step)⟩
 case rest=>
  clear HC4;try clear c1
  try clear p2
  try clear c5
  try clear c5b0
  try clear c6
  try clear c6b0
  obtain⟨kq,x23_3,rfl,HA,HJ3,⟨mc3,rfl⟩⟩:=hcut;cases kq with
  |zero=>exact absurd HA.out (by simp[bE.j0])
  |succ kj3=>
   have H:=HA.out;clear HA;simp only[bE.j0] at H;by_cases c7:x23_3=true
   ·subst c7
    have H1:(some ((⟨#[]⟩:ByteArray),0,2))=some (r1,r2,r3):=by first|(rw[if_pos rfl] at H;exact H)|rfl
    clear H;have H:=H1;clear H1;simp only[zNq,zOq] at H;obtain⟨rfl,rfl,rfl⟩:=H;go_wp2;go_ret3;exact⟨by first|rfl|(simp;done)|(simp[*];done),by repeat(first|exact Drawn0.refl _|apply Drawn0.step)⟩
   replace c7:=Bool.eq_false_iff.mpr c7;subst c7;have H1:((aG.f kj3 a0 a1 2).bind fun bt101=> (if bt101.2.2=0 then(if bt101.1 > a2 then(some ((⟨#[]⟩:ByteArray),0,3))else(if(wrap64 (bt101.2.1+bt101.1)) > (a0.size:Int)then(some ((⟨#[]⟩:ByteArray),0,4))else(if 0≤bt101.2.1 then(if bt101.2.1≤(wrap64 (bt101.2.1+bt101.1))then(if(wrap64 (bt101.2.1+bt101.1))≤(a0.size:Int)then(some (a0.extract (bt101.2.1:Int).toNat ((wrap64 (bt101.2.1+bt101.1)):Int).toNat,wrap64 (bt101.2.1+bt101.1),0))else(none))else(none))else(none))))else(some ((⟨#[]⟩:ByteArray),0,bt101.2.2))))=some (r1,r2,r3):=by first|(rw[if_neg (show ¬ (false=true) by decide)] at H;exact H)|rfl
   clear H;have H:=H1;clear H1;obtain⟨⟨t101,t102,t103⟩,A8,H⟩:=qD_ H;(try dsimp only at H);by_cases c9:t103=0
   ·rw[if_pos c9] at H
    have c9b0:(t103==0)=true:=beq_iff_eq.mpr c9;have c9b1:(t103 != 0)=false:=bne_eq_false_iff_eq.mpr c9;clear c9;by_cases c10:t101 > a2
    ·rw[if_pos c10] at H
     have c10b0:decide (a2 < t101)=true:=zFq c10;clear c10;simp only[zNq,zOq] at H;obtain⟨rfl,rfl,rfl⟩:=H;go_wp2_with (first|((with_reducible refine zJq (f:=117) rfl ?_);refine goesL_ (some 27) rfl rfl Try.func117 (by kernel_rfl) rfl #[.string a0,.int .i64 a1,.int .i64 2] rfl qG ?_;(with_reducible refine(aG.calls kj3 a0 a1 2 t101 t102 t103 _ A8.out).mono ?_);rintro e w' ⟨rfl,⟨nd,rfl⟩⟩;refine⟨_,rfl,?_⟩));go_ret3;exact⟨by first|rfl|(simp;done)|(simp[*];done),by repeat(first|exact Drawn0.refl _|apply Drawn0.step)⟩
    rw[if_neg c10] at H;have c10b0:decide (a2 < t101)=false:=zGq c10;clear c10;by_cases c11:(wrap64 (t102+t101)) > (a0.size:Int)
    ·rw[if_pos c11] at H
     have c11b0:decide ((a0.size:Int) < (wrap64 (t102+t101)))=true:=zFq c11;clear c11;simp only[zNq,zOq] at H;obtain⟨rfl,rfl,rfl⟩:=H;go_wp2_with (first|((with_reducible refine zJq (f:=117) rfl ?_);refine goesL_ (some 27) rfl rfl Try.func117 (by kernel_rfl) rfl #[.string a0,.int .i64 a1,.int .i64 2] rfl qG ?_;(with_reducible refine(aG.calls kj3 a0 a1 2 t101 t102 t103 _ A8.out).mono ?_);rintro e w' ⟨rfl,⟨nd,rfl⟩⟩;refine⟨_,rfl,?_⟩));go_ret3;exact⟨by first|rfl|(simp;done)|(simp[*];done),by repeat(first|exact Drawn0.refl _|apply Drawn0.step)⟩
    rw[if_neg c11] at H;have c11b0:decide ((a0.size:Int) < (wrap64 (t102+t101)))=false:=zGq c11;clear c11;by_cases c12:0≤t102
    ·rw[if_pos c12] at H
     have c12b0:=eq_true c12;have c12b1:=zFq c12;clear c12;by_cases c13:t102≤(wrap64 (t102+t101))
     ·rw[if_pos c13] at H
      have c13b0:=eq_true c13;have c13b1:=zFq c13;by_cases c14:(wrap64 (t102+t101))≤(a0.size:Int)
      ·rw[if_pos c14] at H
       have c14b0:=eq_true c14;have c14b1:=zFq c14;simp only[zNq,zOq] at H;obtain⟨rfl,rfl,rfl⟩:=H;go_wp2_with (first|((with_reducible refine zJq (f:=117) rfl ?_);refine goesL_ (some 27) rfl rfl Try.func117 (by kernel_rfl) rfl #[.string a0,.int .i64 a1,.int .i64 2] rfl qG ?_;(with_reducible refine(aG.calls kj3 a0 a1 2 t101 t102 t103 _ A8.out).mono ?_);rintro e w' ⟨rfl,⟨nd,rfl⟩⟩;refine⟨_,rfl,?_⟩));go_ret3;exact⟨by first|rfl|(simp;done)|(simp[*];done),by repeat(first|exact Drawn0.refl _|apply Drawn0.step)⟩
      rw[if_neg c14] at H;exact absurd H (by simp)
     rw[if_neg c13] at H;exact absurd H (by simp)
    rw[if_neg c12] at H;exact absurd H (by simp)
   rw[if_neg c9] at H;have c9b0:(t103==0)=false:=beq_eq_false_iff_ne.mpr c9;have c9b1:(t103 != 0)=true:=bne_iff_ne.mpr c9;simp only[zNq,zOq] at H;obtain⟨rfl,rfl,rfl⟩:=H;go_wp2_with (first|((with_reducible refine zJq (f:=117) rfl ?_);refine goesL_ (some 27) rfl rfl Try.func117 (by kernel_rfl) rfl #[.string a0,.int .i64 a1,.int .i64 2] rfl qG ?_;(with_reducible refine(aG.calls kj3 a0 a1 2 t101 t102 t103 _ A8.out).mono ?_);rintro e w' ⟨rfl,⟨nd,rfl⟩⟩;refine⟨_,rfl,?_⟩));go_ret3;exact⟨by first|rfl|(simp;done)|(simp[*];done),by repeat(first|exact Drawn0.refl _|apply Drawn0.step)⟩
def bX.f (k:Nat) (a0_0:ByteArray) (a0_1:Int) (a0_2:Int) (a1:Int):Option (ByteArray × Int × Int × ByteArray):=if a0_2=0 then((bE.f k a0_0 a0_1 a1).bind fun bt103=> ((bV.f a0_0 a0_1 a0_2 bt103.2.1 bt103.2.2).bind fun bt106=> (some (bt106.1,bt106.2.1,bt106.2.2,bt103.1))))else(some (a0_0,a0_1,a0_2,(⟨#[]⟩:ByteArray)))
theorem bX.mono: ∀ a0 a1 a2 a3 k,LeO (bX.f k a0 a1 a2 a3) (bX.f (k+1) a0 a1 a2 a3):=by
  intro a0 a1 a2 a3 k
  unfold bX.f
  repeat' (with_reducible first|exact bE.mono _ _ _ _|exact LeO.refl _|exact LeO.none _|refine LeO.ite ?_ ?_|refine LeO.bind ?_ (fun _=>?_))
theorem bX.calls (k:Nat) (a0_0:ByteArray) (a0_1:Int) (a0_2:Int) (a1:Int) (r1:ByteArray) (r2:Int) (r3:Int) (r4:ByteArray) (w:World) (h:bX.f k a0_0 a0_1 a0_2 a1=some (r1,r2,r3,r4)):
  Calls Try.prog 65 #[.agg #[.string a0_0,.int .i64 a0_1,.int .i64 a0_2],.int .i64 a1] w fun e w'=>e= .returned (.tuple #[.agg #[.string r1,.int .i64 r2,.int .i64 r3],.string r4])∧Below w.heap.size w w':=by
 have hu33:=Try.underlying33
 have HB:=zA (Below.refl w.heap.size w)
 have H:(if a0_2=0 then((bE.f k a0_0 a0_1 a1).bind fun bt103=> ((bV.f a0_0 a0_1 a0_2 bt103.2.1 bt103.2.2).bind fun bt106=> (some (bt106.1,bt106.2.1,bt106.2.2,bt103.1))))else(some (a0_0,a0_1,a0_2,(⟨#[]⟩:ByteArray))))=some (r1,r2,r3,r4):=h
 clear h
 by_cases c3:a0_2=0
 ·rw[if_pos c3] at H
  have c3b0:(a0_2==0)=true:=beq_iff_eq.mpr c3;have c3b1:(a0_2 != 0)=false:=bne_eq_false_iff_eq.mpr c3;clear c3;obtain⟨⟨t103,t104,t105⟩,A4,H⟩:=qD_ H;(try dsimp only at H);obtain⟨⟨t106,t107,t108⟩,A5,H⟩:=qD_ H;(try dsimp only at H);simp only[zNq,zOq] at H;obtain⟨rfl,rfl,rfl,rfl⟩:=H;go_enter Try.func65,Try.ntmps65;go_wp2_with (first|((with_reducible refine gate_dst (N:=2) rfl ?_);refine box_event qr (N:=2) qr (cs:= #[.string a0_0,.int .i64 a0_1,.int .i64 a0_2]) (t:=33) qg ?_;intro gb101 hg w6 hbox hb;have BK101:=zA (hbox);have GW101:=zA ((qS:w.heap.size≤gb101));have GE101:=zA ((qS:w.heap.size≤gb101));replace HB:=zA (zV qB hb);clear hb hbox hg)|((with_reducible refine gate_dst (N:=4) rfl ?_);refine box_event qr (N:=4) qr (cs:= #[.string (⟨#[]⟩:ByteArray),.int .i64 0,.int .i64 0]) (t:=33) qg ?_;intro gb102 hg w7 hbox hb;have BK102:=zA (hbox);have GW102:=zA ((qS:w.heap.size≤gb102));have GE102:=zA ((qS:w.heap.size≤gb102));replace HB:=zA (zV qB hb);have NB101_102:=zA ((by rw[hg];exact zLq (qL BK101.out):gb101≠gb102));have NB102_101:=zA ((by rw[hg];exact zMq (qL BK101.out):gb102≠gb101));replace BK101:=zA (qX BK101.out hb);clear hb hbox hg;have hnb8:=NB101_102.out;have hnc8:=NB102_101.out;obtain⟨hcz9_0,hcz9_1,hcz9_2,hfz9_0,hfz9_1,hfz9_2⟩:=qc3f BK101.out)|((with_reducible refine zJq (f:=119) rfl ?_);refine goesL_ (some 19) rfl rfl Try.func119 (by kernel_rfl) rfl #[.string a0_0,.int .i64 a0_1,.int .i64 a1] rfl qG ?_;(with_reducible refine(bE.calls k a0_0 a0_1 a1 t103 t104 t105 _ A4.out).mono ?_);rintro e w' ⟨rfl,⟨nd,rfl⟩⟩;refine⟨_,rfl,?_⟩;(try(rw[drewN_self w7];generalize hq_:World.drewN w7 _=w7;have n0_:Aside0 (w7.heap[gb101]? =some (.cells #[.string a0_0,.int .i64 a0_1,.int .i64 a0_2] 33 (0,0))):=⟨by rw[←hq_];exact(qW BK101.out)⟩;have n1_:Aside0 (w7.heap[gb102]? =some (.cells #[.string (⟨#[]⟩:ByteArray),.int .i64 0,.int .i64 0] 33 (0,0))):=⟨by rw[←hq_];exact(qW BK102.out)⟩;have n2_:Aside0 (Below w.heap.size w w7):=⟨by rw[←hq_];exact qB⟩;clear BK101 BK102 HB hq_;have BK101:=n0_;have BK102:=n1_;have HB:=n2_;clear n0_ n1_ n2_));(try(obtain⟨hcz9_0,hcz9_1,hcz9_2,hfz9_0,hfz9_1,hfz9_2⟩:=qc3f BK101.out)))|((with_reducible refine zJq (f:=118) rfl ?_);refine goesL_ (some 26) rfl rfl Try.func118 (by kernel_rfl) rfl #[.agg #[.string a0_0,.int .i64 a0_1,.int .i64 a0_2],.int .i64 t104,.int .i64 t105] rfl qG ?_;(with_reducible refine(bV.calls a0_0 a0_1 a0_2 t104 t105 t106 t107 t108 _ A5.out).mono ?_);rintro e w10 ⟨rfl,hb⟩;refine⟨_,rfl,?_⟩;replace BK101:=zA (qX BK101.out hb);replace BK102:=zA (qX BK102.out hb);replace HB:=zA (zV qB hb);(try clear hb);obtain⟨_,_,_,_,_,_⟩:=qc3f BK102.out))
  refine bodyPost_ret (results_ct rfl _ _ gb102 33 #[.string t106,.int .i64 t107,.int .i64 t108] (0,0) _ rfl (qV BK102.out) Try.underlying33 rfl (by kernel_rfl)) rfl ?_;exact⟨qE,qB⟩
 rw[if_neg c3] at H
 have c3b0:(a0_2==0)=false:=beq_eq_false_iff_ne.mpr c3
 have c3b1:(a0_2 != 0)=true:=bne_iff_ne.mpr c3
 simp only[zNq,zOq] at H
 obtain⟨rfl,rfl,rfl,rfl⟩:=H
 go_enter Try.func65,Try.ntmps65
 go_wp2_with (first|((with_reducible refine gate_dst (N:=2) rfl ?_);refine box_event qr (N:=2) qr (cs:= #[.string a0_0,.int .i64 a0_1,.int .i64 a0_2]) (t:=33) qg ?_;intro gb101 hg w12 hbox hb;have BK101:=zA (hbox);have GW101:=zA ((qS:w.heap.size≤gb101));have GE101:=zA ((qS:w.heap.size≤gb101));replace HB:=zA (zV qB hb);clear hb hbox hg)|((with_reducible refine gate_dst (N:=4) rfl ?_);refine box_event qr (N:=4) qr (cs:= #[.string (⟨#[]⟩:ByteArray),.int .i64 0,.int .i64 0]) (t:=33) qg ?_;intro gb102 hg w13 hbox hb;have BK102:=zA (hbox);have GW102:=zA ((qS:w.heap.size≤gb102));have GE102:=zA ((qS:w.heap.size≤gb102));replace HB:=zA (zV qB hb);have NB101_102:=zA ((by rw[hg];exact zLq (qL BK101.out):gb101≠gb102));have NB102_101:=zA ((by rw[hg];exact zMq (qL BK101.out):gb102≠gb101));replace BK101:=zA (qX BK101.out hb);clear hb hbox hg;have hnb14:=NB101_102.out;have hnc14:=NB102_101.out;obtain⟨_,_,_,_,_,_⟩:=qc3f BK101.out;obtain⟨_,_,_,_,_,_⟩:=qc3f BK102.out))
 refine bodyPost_ret (results_ct rfl _ _ gb102 33 #[.string a0_0,.int .i64 a0_1,.int .i64 a0_2] (0,0) _ rfl (qV BK102.out) Try.underlying33 rfl (by kernel_rfl)) rfl ?_
 exact⟨qE,qB⟩
def cJ.f (a0_0:ByteArray) (a0_1:Int) (a0_2:Int):Option (ByteArray × Int × Int):=if a0_2=0 then(if a0_1 < (a0_0.size:Int)then(some (a0_0,a0_1,6))else(some (a0_0,a0_1,a0_2)))else(some (a0_0,a0_1,a0_2))
theorem cJ.calls (a0_0:ByteArray) (a0_1:Int) (a0_2:Int) (r1:ByteArray) (r2:Int) (r3:Int) (w:World) (h:cJ.f a0_0 a0_1 a0_2=some (r1,r2,r3)):
  Calls Try.prog 70 #[.agg #[.string a0_0,.int .i64 a0_1,.int .i64 a0_2]] w fun e w'=>e= .returned (.agg #[.string r1,.int .i64 r2,.int .i64 r3])∧Below w.heap.size w w':=by
 have hu33:=Try.underlying33
 have HB:=zA (Below.refl w.heap.size w)
 have H:(if a0_2=0 then(if a0_1 < (a0_0.size:Int)then(some (a0_0,a0_1,6))else(some (a0_0,a0_1,a0_2)))else(some (a0_0,a0_1,a0_2)))=some (r1,r2,r3):=h
 clear h
 by_cases c2:a0_2=0
 ·rw[if_pos c2] at H
  have c2b0:(a0_2==0)=true:=beq_iff_eq.mpr c2;have c2b1:(a0_2 != 0)=false:=bne_eq_false_iff_eq.mpr c2;clear c2;by_cases c3:a0_1 < (a0_0.size:Int)
  ·rw[if_pos c3] at H
   have c3b0:=zFq c3;clear c3;simp only[zNq,zOq] at H;obtain⟨rfl,rfl,rfl⟩:=H;go_enter Try.func70,Try.ntmps70;go_wp2_with (first|((with_reducible refine gate_dst (N:=1) rfl ?_);(try(refine gate_guard (by rfl) ?_;dsimp only));refine box_event qr (N:=1) qr (cs:= #[.string a0_0,.int .i64 a0_1,.int .i64 a0_2]) (t:=33) qg ?_;intro gb101 hg w4 hbox hb;have BK101:=zA (hbox);have GW101:=zA ((qS:w.heap.size≤gb101));have GE101:=zA ((qS:w.heap.size≤gb101));replace HB:=zA (zV qB hb);clear hb hbox hg)|((with_reducible refine gate_dst (N:=2) rfl ?_);(try(refine gate_guard (by rfl) ?_;dsimp only));refine box_event qr (N:=2) qr (cs:= #[.string (⟨#[]⟩:ByteArray),.int .i64 0,.int .i64 0]) (t:=33) qg ?_;intro gb102 hg w5 hbox hb;have BK102:=zA (hbox);have GW102:=zA ((qS:w.heap.size≤gb102));have GE102:=zA ((qS:w.heap.size≤gb102));replace HB:=zA (zV qB hb);have NB101_102:=zA ((by rw[hg];exact zLq (qL BK101.out):gb101≠gb102));have NB102_101:=zA ((by rw[hg];exact zMq (qL BK101.out):gb102≠gb101));replace BK101:=zA (qX BK101.out hb);clear hb hbox hg;have hnb6:=NB101_102.out;have hnc6:=NB102_101.out;obtain⟨_,_,_,_,_,_⟩:=qc3f BK101.out;obtain⟨_,_,_,_,_,_⟩:=qc3f BK102.out));refine bodyPost_ret (results_cell_row rfl _ _ gb102 33 #[.string a0_0,.int .i64 a0_1,.int .i64 6] (0,0) _ rfl (qV BK102.out) Try.underlying33 rfl (by kernel_rfl)) rfl ?_;exact⟨qE,qB⟩
  rw[if_neg c3] at H;have c3b0:=zGq c3;clear c3;simp only[zNq,zOq] at H;obtain⟨rfl,rfl,rfl⟩:=H;go_enter Try.func70,Try.ntmps70;go_wp2_with (first|((with_reducible refine gate_dst (N:=1) rfl ?_);(try(refine gate_guard (by rfl) ?_;dsimp only));refine box_event qr (N:=1) qr (cs:= #[.string a0_0,.int .i64 a0_1,.int .i64 a0_2]) (t:=33) qg ?_;intro gb101 hg w9 hbox hb;have BK101:=zA (hbox);have GW101:=zA ((qS:w.heap.size≤gb101));have GE101:=zA ((qS:w.heap.size≤gb101));replace HB:=zA (zV qB hb);clear hb hbox hg)|((with_reducible refine gate_dst (N:=2) rfl ?_);(try(refine gate_guard (by rfl) ?_;dsimp only));refine box_event qr (N:=2) qr (cs:= #[.string (⟨#[]⟩:ByteArray),.int .i64 0,.int .i64 0]) (t:=33) qg ?_;intro gb102 hg w10 hbox hb;have BK102:=zA (hbox);have GW102:=zA ((qS:w.heap.size≤gb102));have GE102:=zA ((qS:w.heap.size≤gb102));replace HB:=zA (zV qB hb);have NB101_102:=zA ((by rw[hg];exact zLq (qL BK101.out):gb101≠gb102));have NB102_101:=zA ((by rw[hg];exact zMq (qL BK101.out):gb102≠gb101));replace BK101:=zA (qX BK101.out hb);clear hb hbox hg;have hnb11:=NB101_102.out;have hnc11:=NB102_101.out;obtain⟨_,_,_,_,_,_⟩:=qc3f BK101.out;obtain⟨_,_,_,_,_,_⟩:=qc3f BK102.out));refine bodyPost_ret (results_cell_row rfl _ _ gb102 33 #[.string a0_0,.int .i64 a0_1,.int .i64 a0_2] (0,0) _ rfl (qV BK102.out) Try.underlying33 rfl (by kernel_rfl)) rfl ?_;exact⟨qE,qB⟩
 rw[if_neg c2] at H
 have c2b0:(a0_2==0)=false:=beq_eq_false_iff_ne.mpr c2
 have c2b1:(a0_2 != 0)=true:=bne_iff_ne.mpr c2
 simp only[zNq,zOq] at H
 obtain⟨rfl,rfl,rfl⟩:=H
 go_enter Try.func70,Try.ntmps70
 go_wp2_with (first|((with_reducible refine gate_dst (N:=1) rfl ?_);(try(refine gate_guard (by rfl) ?_;dsimp only));refine box_event qr (N:=1) qr (cs:= #[.string a0_0,.int .i64 a0_1,.int .i64 a0_2]) (t:=33) qg ?_;intro gb101 hg w14 hbox hb;have BK101:=zA (hbox);have GW101:=zA ((qS:w.heap.size≤gb101));have GE101:=zA ((qS:w.heap.size≤gb101));replace HB:=zA (zV qB hb);clear hb hbox hg)|((with_reducible refine gate_dst (N:=2) rfl ?_);(try(refine gate_guard (by rfl) ?_;dsimp only));refine box_event qr (N:=2) qr (cs:= #[.string (⟨#[]⟩:ByteArray),.int .i64 0,.int .i64 0]) (t:=33) qg ?_;intro gb102 hg w15 hbox hb;have BK102:=zA (hbox);have GW102:=zA ((qS:w.heap.size≤gb102));have GE102:=zA ((qS:w.heap.size≤gb102));replace HB:=zA (zV qB hb);have NB101_102:=zA ((by rw[hg];exact zLq (qL BK101.out):gb101≠gb102));have NB102_101:=zA ((by rw[hg];exact zMq (qL BK101.out):gb102≠gb101));replace BK101:=zA (qX BK101.out hb);clear hb hbox hg;have hnb16:=NB101_102.out;have hnc16:=NB102_101.out;obtain⟨_,_,_,_,_,_⟩:=qc3f BK101.out;obtain⟨_,_,_,_,_,_⟩:=qc3f BK102.out))
 refine bodyPost_ret (results_cell_row rfl _ _ gb102 33 #[.string a0_0,.int .i64 a0_1,.int .i64 a0_2] (0,0) _ rfl (qV BK102.out) Try.underlying33 rfl (by kernel_rfl)) rfl ?_
 exact⟨qE,qB⟩
end Go.Proofs.Ytdpcgigjlcpofaa.F
