-- by prune.py (own program),out of the print
import Derived.Test.YtdpcgigjlcpofaaProg
import Derived.Below
import Derived.Deep.Draws
import Derived.Deep.AppendLies
import Derived.Maps.AppendAt
import Derived.OwnWalk
import Derived.Laws.BytesArg
import Derived.Laws.MakeOwn
import Derived.Laws.OwnMore
import Derived.Deep.OwnRows
import Derived.Tactics
import Derived.Lib.ConvBytes
import Derived.Laws.Slices
import Derived.WalkKit
import Derived.KernelRfl
import Derived.RowKit3
import Derived.Deep.LoopGhost
import Derived.Deep.QuietTactic
import Derived.BigQuiet
import Derived.WideLaws
import Derived.Deep.DeepCutAuto
import Derived.Deep.CutBlock
import Derived.Deep.RegionHeld3
import Derived.Laws.Rows
import Derived.Lib.AppendStr
import Derived.ArgAppend
import Derived.Laws.IdiomCopy
import Derived.OrdersHeld
import Derived.Laws.BitsLemmas
import Derived.RowKit
import Derived.Laws.StructEq
import Derived.Deep.RegionLawGrows
import Derived.Lib.SliceRun
import Derived.Shelf.Strings.BuilderK
import Derived.Shelf.Strings.Builder1
import Derived.Shelf.Strings.BuilderF
import Derived.Shelf.Utf8.RuneCount
import Derived.Shelf.Strings.Prefix
import Derived.Laws.CopyRow
import Derived.Laws.CopyOwn
import Derived.Test.YtdpcgigjlcpofaaZBatchCodes6
set_option maxHeartbeats 8000000
set_option maxRecDepth 100000
namespace Go.Proofs.Ytdpcgigjlcpofaa.F
open Go.RowKit Go.Proofs.YtdpcgigjlcpofaaX Go.Proofs.YtdpcgigjlcpofaaW.PrintWords Go.Proofs.YtdpcgigjlcpofaaW.PrintLast Go.Proofs.YtdpcgigjlcpofaaW.PrintMore
attribute [local go_sem] max2_int min2_int max_two min_two max_three min_three max_four min_four
attribute [local go_sem high] str_geq str_leq str_gtr
set_option linter.unusedVariables false
set_option linter.unusedSimpArgs false
mutual
def aD.l0:Nat→Int→Int→ByteArray→Int→Int→Int→List (S169)→Option (Int × (List (S169)) × Int)
  |0,_,_,_,_,_,_,_=>none
  |k+1,x5,x7,x103000,x103001,x103002,x108000,x108001=>if x7 < x5 then(aD.j1 k x5 x7 (x103002==0) x103000 x103001 x103002 x108000 x108001)else(aD.j1 k x5 x7 false x103000 x103001 x103002 x108000 x108001)
def aD.j1:Nat→Int→Int→Bool→ByteArray→Int→Int→Int→List (S169)→Option (Int × (List (S169)) × Int)
  |0,_,_,_,_,_,_,_,_=>none
  |k+1,x5,x7,x31,x103000,x103001,x103002,x108000,x108001=>if x31=true then((aZ.f k x103000 x103001 x103002 1 60).bind fun bt108=> (aD.l1 k x5 x7 bt108.2.2.2 0 bt108.1 bt108.2.1 bt108.2.2.1 x108000 x108001))else((cJ.f x103000 x103001 x103002).bind fun bt126=> (if bt126.2.2=0 then((aE.f k x108000 x108001).bind fun t129=> (if t129=0 then(some (x108000,x108001,0))else(some (0,([] :List (S169)),40))))else(some (0,([] :List (S169)),bt126.2.2))))
def aD.l1:Nat→Int→Int→Int→Int→ByteArray→Int→Int→Int→List (S169)→Option (Int × (List (S169)) × Int)
  |0,_,_,_,_,_,_,_,_,_=>none
  |k+1,x5,x7,x9,x10,x103000,x103001,x103002,x108000,x108001=>if x10 < x9 then(aD.j3 k x5 x7 x9 x10 (x103002==0) x103000 x103001 x103002 x108000 x108001)else(aD.j3 k x5 x7 x9 x10 false x103000 x103001 x103002 x108000 x108001)
def aD.j3:Nat→Int→Int→Int→Int→Bool→ByteArray→Int→Int→Int→List (S169)→Option (Int × (List (S169)) × Int)
  |0,_,_,_,_,_,_,_,_,_,_=>none
  |k+1,x5,x7,x9,x10,x47,x103000,x103001,x103002,x108000,x108001=>if x47=true then((aZ.f k x103000 x103001 x103002 4 999999).bind fun bt113=> ((bX.f k bt113.1 bt113.2.1 bt113.2.2.1 200).bind fun bt118=> (if x108001.length < 4398046511104 then(aD.l1 k x5 x7 x9 (wrap64 (x10+1)) bt118.1 bt118.2.1 bt118.2.2.1 x108000 (x108001++ [(⟨x7,bt113.2.2.2,bt118.2.2.2⟩:S169)]))else(none))))else(aD.l0 k x5 (wrap64 (x7+1)) x103000 x103001 x103002 x108000 x108001)
end
def aD.f (k:Nat) (a0:ByteArray):Option (Int × (List (S169)) × Int):=(aZ.f k a0 0 0 1 8).bind fun bt103=> (aD.l0 k bt103.2.2.2 0 bt103.1 bt103.2.1 bt103.2.2.1 bt103.2.2.2 ([] :List (S169)))
theorem aD.mono_l: ∀ k,(∀ y0 y1 y2 y3 y4 y5 y6,LeO (aD.l0 k y0 y1 y2 y3 y4 y5 y6) (aD.l0 (k+1) y0 y1 y2 y3 y4 y5 y6))∧(∀ y0 y1 y2 y3 y4 y5 y6 y7,LeO (aD.j1 k y0 y1 y2 y3 y4 y5 y6 y7) (aD.j1 (k+1) y0 y1 y2 y3 y4 y5 y6 y7))∧(∀ y0 y1 y2 y3 y4 y5 y6 y7 y8,LeO (aD.l1 k y0 y1 y2 y3 y4 y5 y6 y7 y8) (aD.l1 (k+1) y0 y1 y2 y3 y4 y5 y6 y7 y8))∧(∀ y0 y1 y2 y3 y4 y5 y6 y7 y8 y9,LeO (aD.j3 k y0 y1 y2 y3 y4 y5 y6 y7 y8 y9) (aD.j3 (k+1) y0 y1 y2 y3 y4 y5 y6 y7 y8 y9))
  |0=> ⟨fun _ _ _ _ _ _ _ r h=>by simp[aD.l0] at h,fun _ _ _ _ _ _ _ _ r h=>by simp[aD.j1] at h,fun _ _ _ _ _ _ _ _ _ r h=>by simp[aD.l1] at h,fun _ _ _ _ _ _ _ _ _ _ r h=>by simp[aD.j3] at h⟩
  |k+1=>by
    obtain⟨ih0,ih1,ih2,ih3⟩:=aD.mono_l k
    refine⟨?_,?_,?_,?_⟩
    · intro y0 y1 y2 y3 y4 y5 y6
      unfold aD.l0
      repeat' (with_reducible first|exact ih0 _ _ _ _ _ _ _|exact ih1 _ _ _ _ _ _ _ _|exact ih2 _ _ _ _ _ _ _ _ _|exact ih3 _ _ _ _ _ _ _ _ _ _|exact aZ.mono _ _ _ _ _ _|exact bX.mono _ _ _ _ _|exact aE.mono _ _ _|exact LeO.refl _|exact LeO.none _|refine LeO.ite ?_ ?_|refine LeO.bind ?_ (fun _=>?_))
    · intro y0 y1 y2 y3 y4 y5 y6 y7
      unfold aD.j1
      repeat' (with_reducible first|exact ih0 _ _ _ _ _ _ _|exact ih1 _ _ _ _ _ _ _ _|exact ih2 _ _ _ _ _ _ _ _ _|exact ih3 _ _ _ _ _ _ _ _ _ _|exact aZ.mono _ _ _ _ _ _|exact bX.mono _ _ _ _ _|exact aE.mono _ _ _|exact LeO.refl _|exact LeO.none _|refine LeO.ite ?_ ?_|refine LeO.bind ?_ (fun _=>?_))
    · intro y0 y1 y2 y3 y4 y5 y6 y7 y8
      unfold aD.l1
      repeat' (with_reducible first|exact ih0 _ _ _ _ _ _ _|exact ih1 _ _ _ _ _ _ _ _|exact ih2 _ _ _ _ _ _ _ _ _|exact ih3 _ _ _ _ _ _ _ _ _ _|exact aZ.mono _ _ _ _ _ _|exact bX.mono _ _ _ _ _|exact aE.mono _ _ _|exact LeO.refl _|exact LeO.none _|refine LeO.ite ?_ ?_|refine LeO.bind ?_ (fun _=>?_))
    intro y0 y1 y2 y3 y4 y5 y6 y7 y8 y9
    unfold aD.j3
    repeat' (with_reducible first|exact ih0 _ _ _ _ _ _ _|exact ih1 _ _ _ _ _ _ _ _|exact ih2 _ _ _ _ _ _ _ _ _|exact ih3 _ _ _ _ _ _ _ _ _ _|exact aZ.mono _ _ _ _ _ _|exact bX.mono _ _ _ _ _|exact aE.mono _ _ _|exact LeO.refl _|exact LeO.none _|refine LeO.ite ?_ ?_|refine LeO.bind ?_ (fun _=>?_))
theorem aD.mono: ∀ a0 k,LeO (aD.f k a0) (aD.f (k+1) a0):=by
  intro a0 k
  obtain⟨ih0,ih1,ih2,ih3⟩:=aD.mono_l k
  unfold aD.f
  repeat' (with_reducible first|exact ih0 _ _ _ _ _ _ _|exact ih1 _ _ _ _ _ _ _ _|exact ih2 _ _ _ _ _ _ _ _ _|exact ih3 _ _ _ _ _ _ _ _ _ _|exact aZ.mono _ _ _ _ _ _|exact bX.mono _ _ _ _ _|exact aE.mono _ _ _|exact LeO.refl _|exact LeO.none _|refine LeO.ite ?_ ?_|refine LeO.bind ?_ (fun _=>?_))
theorem aD.calls (k:Nat) (a0:ByteArray) (r1:Int) (r2:List (S169)) (r3:Int) (w:World) (h:aD.f k a0=some (r1,r2,r3)):
  Calls Try.prog 59 #[.string a0] w fun e w'=> ∃ v1_:Value,e= .returned (.tuple #[.agg #[.int .i64 r1,v1_],.int .i64 r3])∧Kd.R k169 169 w' w.heap.size (fun _=>True) v1_ r2∧Below w.heap.size w w':=by
 have hu82:=Try.underlying82
 have hu33:=Try.underlying33
 have hu169:=Try.underlying169
 have HB:=zA (Below.refl w.heap.size w)
 have H:((aZ.f k a0 0 0 1 8).bind fun bt103=> (aD.l0 k bt103.2.2.2 0 bt103.1 bt103.2.1 bt103.2.2.1 bt103.2.2.2 ([] :List (S169))))=some (r1,r2,r3):=h
 clear h
 obtain⟨⟨t103,t104,t105,t106⟩,A2,H⟩:=qD_ H
 (try dsimp only at H)
 have H':=zA H
 clear H
 go_enter Try.func59,Try.ntmps59
 go_wp2_with (first|((with_reducible refine gate_dst (N:=2) rfl ?_);refine box_event qr (N:=2) qr (cs:= #[.int .i64 0,.slice none 0 0]) (t:=82) qg ?_;intro gb101 hg w3 hbox hb;have BK101:=zA (hbox);have GW101:=zA ((qS:w.heap.size≤gb101));have GE101:=zA ((qS:w.heap.size≤gb101));replace HB:=zA (zV qB hb);clear hb hbox hg)|((with_reducible refine gate_dst (N:=4) rfl ?_);refine box_event qr (N:=4) qr (cs:= #[.string (⟨#[]⟩:ByteArray),.int .i64 0,.int .i64 0]) (t:=33) qg ?_;intro gb102 hg w4 hbox hb;have BK102:=zA (hbox);have GW102:=zA ((qS:w.heap.size≤gb102));have GE102:=zA ((qS:w.heap.size≤gb102));replace HB:=zA (zV qB hb);have NB101_102:=zA ((by rw[hg];exact zLq (qL BK101.out):gb101≠gb102));have NB102_101:=zA ((by rw[hg];exact zMq (qL BK101.out):gb102≠gb101));replace BK101:=zA (qX BK101.out hb);clear hb hbox hg;have hnb5:=NB102_101.out;have hnc5:=NB101_102.out;obtain⟨_,_,_,_,_,_⟩:=qc3f BK102.out)|((with_reducible refine zJq (f:=64) rfl ?_);refine goesL_ (some 19) rfl rfl Try.func64 (by kernel_rfl) rfl #[.agg #[.string a0,.int .i64 0,.int .i64 0],.int .i64 1,.int .i64 8] rfl qG ?_;(with_reducible refine(aZ.calls k a0 0 0 1 8 t103 t104 t105 t106 _ A2.out).mono ?_);rintro e w7 ⟨rfl,hb⟩;refine⟨_,rfl,?_⟩;replace BK101:=zA (qX BK101.out hb);replace BK102:=zA (zX (g:=gb102) (o:= .cells #[.string a0,.int .i64 0,.int .i64 0] 33 (0,0)) (qV BK102.out) hb);replace HB:=zA (zV qB hb);(try clear hb);obtain⟨_,_,_,_,_,_⟩:=qc3f BK102.out)|((with_reducible refine gate_dst (N:=6) rfl ?_);refine box_event qr (N:=6) qr (cs:= #[.int .i64 0,.slice none 0 0]) (t:=82) qg ?_;intro gb107 hg w9 hbox hb;have BK107:=zA (hbox);have GW107:=zA ((qS:w.heap.size≤gb107));have GE107:=zA ((qS:w.heap.size≤gb107));replace HB:=zA (zV qB hb);have NB101_107:=zA ((by rw[hg];exact zLq (qL BK101.out):gb101≠gb107));have NB107_101:=zA ((by rw[hg];exact zMq (qL BK101.out):gb107≠gb101));replace BK101:=zA (qX BK101.out hb);have NB102_107:=zA ((by rw[hg];exact zLq (blk_lt (g:=gb102) (o:= .cells #[.string t103,.int .i64 t104,.int .i64 t105] 33 (0,0)) (qV BK102.out)):gb102≠gb107));have NB107_102:=zA ((by rw[hg];exact zMq (blk_lt (g:=gb102) (o:= .cells #[.string t103,.int .i64 t104,.int .i64 t105] 33 (0,0)) (qV BK102.out)):gb107≠gb102));replace BK102:=zA (zX (g:=gb102) (o:= .cells #[.string t103,.int .i64 t104,.int .i64 t105] 33 (0,0)) (qV BK102.out) hb);clear hb hbox hg;have hnb10:=NB107_101.out;have hnc10:=NB101_107.out;have hnb11:=NB107_102.out;have hnc11:=NB102_107.out;obtain⟨_,_,_,_⟩:=qc2f BK107.out))
 go_loopg[7] k (fun kq v7 w'=> ∃ (x7_1:Int) (x103000_1:ByteArray) (x103001_1:Int) (x103002_1:Int) (x108001_1:List (S169)) (u108001:Value),v7= .int .i64 x7_1∧Aside0 (aD.l0 kq t106 x7_1 x103000_1 x103001_1 x103002_1 t106 x108001_1=some (r1,r2,r3))∧Aside0 (kq≤k)∧Aside0 (Kd.R k169 169 w' w.heap.size (fun _=>True) u108001 x108001_1)∧Aside0 (w'.heap[gb101]? =some (.cells #[.int .i64 0,(.slice none 0 0)] 82 (0,0)))∧Aside0 (w'.heap[gb102]? =some (.cells #[.string x103000_1,.int .i64 x103001_1,.int .i64 x103002_1] 33 (0,0)))∧Aside0 (w'.heap[gb107]? =some (.cells #[.int .i64 t106,u108001] 82 (0,0)))∧Aside0 (Below w.heap.size w w'))
 case atStart=>exact⟨(0),(t103),(t104),(t105),(([] :List (S169))),(.slice none 0 0),qF_,H',⟨Nat.le_refl _⟩,⟨qN⟩,⟨by(with_reducible repeat(first|refine zY ?_ _|refine zAq ?_|refine zZ ?_ _));refine blk_far ?_ NB101_107.out _;(with_reducible repeat(first|refine zY ?_ _|refine zAq ?_|refine zZ ?_ _));refine blk_far ?_ NB101_107.out _;exact BK101.out⟩,⟨by(with_reducible repeat(first|refine zY ?_ _|refine zAq ?_|refine zZ ?_ _));refine blk_far ?_ NB102_107.out _;(with_reducible repeat(first|refine zY ?_ _|refine zAq ?_|refine zZ ?_ _));refine blk_far ?_ NB102_107.out _;exact BK102.out⟩,⟨by(with_reducible repeat(first|refine zY ?_ _|refine zAq ?_|refine zZ ?_ _));apply qP2;exact BK107.out⟩,⟨qB⟩⟩
 case round=>
  clear H';try clear c1
  try clear p2
  try clear c5
  try clear c6
  try clear c10
  try clear c11
  obtain⟨x7_1,x103000_1,x103001_1,x103002_1,x108001_1,u108001,rfl,HA,HK1,HO_108001,BK101,BK102,BK107,HB⟩:=hrel;cases gk with
  |zero=>exact absurd HA.out (by simp[aD.l0])
  |succ k1=>
   have H:=HA.out;clear HA;simp only[aD.l0] at H;have HC13:=zA H;clear H;go_upto_region 5 with(fail)
   go_cut[31] (fun v31 wc=> ∃ (kq:Nat) (x31_12:Bool),v31= .bool x31_12∧Aside0 (aD.j1 kq t106 x7_1 x31_12 x103000_1 x103001_1 x103002_1 t106 x108001_1=some (r1,r2,r3))∧Aside0 (kq≤k1)∧Aside0 (Kd.R k169 169 wc w.heap.size (fun _=>True) u108001 x108001_1)∧Aside0 (wc.heap[gb101]? =some (.cells #[.int .i64 0,(.slice none 0 0)] 82 (0,0)))∧Aside0 (wc.heap[gb102]? =some (.cells #[.string x103000_1,.int .i64 x103001_1,.int .i64 x103002_1] 33 (0,0)))∧Aside0 (wc.heap[gb107]? =some (.cells #[.int .i64 t106,u108001] 82 (0,0)))∧Aside0 (Below w.heap.size w wc))
   case first=>
    have H:=HC13.out;clear HC13;by_cases c14:x7_1 < t106
    ·rw[if_pos c14] at H
     have c14b0:=zFq c14;clear c14;(first|rw[c14b0] |(simp only[i64_w,i32_w];rw[c14b0])|skip)
     have H':=zA H;clear H;have hnb15:=NB102_101.out;have hnc15:=NB101_102.out;have hnb16:=NB102_107.out;have hnc16:=NB107_102.out;obtain⟨_,_,_,_,_,_⟩:=qc3f BK102.out;go_wp2;go_meet
     case rel=>exact⟨_,((x103002_1==0)),qF_,H',⟨by have:=HK1.out;first|omega|exact Nat.le_refl _⟩,⟨qR_ HO_108001.out⟩,⟨by exact BK101.out⟩,⟨by exact BK102.out⟩,⟨by exact BK107.out⟩,⟨qB⟩⟩
    rw[if_neg c14] at H;have c14b0:=zGq c14;clear c14;(first|rw[c14b0] |(simp only[i64_w,i32_w];rw[c14b0])|skip)
    have H':=zA H;clear H;go_wp2;go_meet
    case rel=>exact⟨_,(false),qF_,H',⟨by have:=HK1.out;first|omega|exact Nat.le_refl _⟩,⟨qR_ HO_108001.out⟩,⟨by exact BK101.out⟩,⟨by exact BK102.out⟩,⟨by exact BK107.out⟩,⟨qB⟩⟩
   case rest=>
    clear HC13;try clear c1
    try clear p2
    try clear c5
    try clear c6
    try clear c10
    try clear c11
    try clear c14
    try clear c14b0
    try clear c15
    try clear c16
    try clear p2
    obtain⟨kq,x31_12,rfl,HA,HJ12,HO_108001,BK101,BK102,BK107,HB⟩:=hcut;cases kq with
    |zero=>exact absurd HA.out (by simp[aD.j1])
    |succ kj12=>
     have H:=HA.out;clear HA;simp only[aD.j1] at H;by_cases c18:x31_12=true
     ·subst c18
      have H1:((aZ.f kj12 x103000_1 x103001_1 x103002_1 1 60).bind fun bt108=> (aD.l1 kj12 t106 x7_1 bt108.2.2.2 0 bt108.1 bt108.2.1 bt108.2.2.1 t106 x108001_1))=some (r1,r2,r3):=by first|(rw[if_pos rfl] at H;exact H)|rfl
      clear H;have H:=H1;clear H1;obtain⟨⟨t108,t109,t110,t111⟩,A19,H⟩:=qD_ H;(try dsimp only at H);have H':=zA H;clear H;have hnb20:=NB102_101.out;have hnc20:=NB101_102.out;have hnb21:=NB102_107.out;have hnc21:=NB107_102.out;obtain⟨_,_,_,_,_,_⟩:=qc3f BK102.out;go_wp2_with (first|((with_reducible refine zJq (f:=64) rfl ?_);refine goesL_ (some 36) rfl rfl Try.func64 (by kernel_rfl) rfl #[.agg #[.string x103000_1,.int .i64 x103001_1,.int .i64 x103002_1],.int .i64 1,.int .i64 60] rfl qG ?_;(with_reducible refine(aZ.calls kj12 x103000_1 x103001_1 x103002_1 1 60 t108 t109 t110 t111 _ A19.out).mono ?_);rintro e w23 ⟨rfl,hb⟩;refine⟨_,rfl,?_⟩;replace HO_108001:=zA (Kd.R_below (qR_ HO_108001.out) hb);replace BK101:=zA (qX BK101.out hb);replace BK102:=zA (qX BK102.out hb);replace BK107:=zA (qX BK107.out hb);replace HB:=zA (zV qB hb);(try clear hb))|((with_reducible refine gate_dst (N:=8) rfl ?_);refine box_event qr (N:=8) qr (cs:= #[.string (⟨#[]⟩:ByteArray),.int .i64 0,.int .i64 0]) (t:=33) qg ?_;intro gb112 hg w24 hbox hb;replace HO_108001:=zA (Kd.R_below (qR_ HO_108001.out) hb);have BK112:=zA (hbox);have GW112:=zA ((qS:w.heap.size≤gb112));have GE112:=zA ((qS:w.heap.size≤gb112));replace HB:=zA (zV qB hb);have NB101_112:=zA ((by rw[hg];exact zLq (qL BK101.out):gb101≠gb112));have NB112_101:=zA ((by rw[hg];exact zMq (qL BK101.out):gb112≠gb101));replace BK101:=zA (qX BK101.out hb);have NB102_112:=zA ((by rw[hg];exact zLq (qL BK102.out):gb102≠gb112));have NB112_102:=zA ((by rw[hg];exact zMq (qL BK102.out):gb112≠gb102));replace BK102:=zA (qX BK102.out hb);have NB107_112:=zA ((by rw[hg];exact zLq (qL BK107.out):gb107≠gb112));have NB112_107:=zA ((by rw[hg];exact zMq (qL BK107.out):gb112≠gb107));replace BK107:=zA (qX BK107.out hb);clear hb hbox hg;have hnb25:=NB112_101.out;have hnc25:=NB101_112.out;have hnb26:=NB112_102.out;have hnc26:=NB102_112.out;have hnb27:=NB112_107.out;have hnc27:=NB107_112.out;obtain⟨_,_,_,_,_,_⟩:=qc3f BK112.out;obtain⟨_,_,_,_,_,_⟩:=qc3f BK102.out))
      go_loopg[10] kj12 (fun kq v10 w'=> ∃ (x10_3:Int) (x103000_3:ByteArray) (x103001_3:Int) (x103002_3:Int) (x108001_3:List (S169)) (u108001:Value),v10= .int .i64 x10_3∧Aside0 (aD.l1 kq t106 x7_1 t111 x10_3 x103000_3 x103001_3 x103002_3 t106 x108001_3=some (r1,r2,r3))∧Aside0 (kq≤kj12)∧Aside0 (Kd.R k169 169 w' w.heap.size (fun _=>True) u108001 x108001_3)∧Aside0 (w'.heap[gb101]? =some (.cells #[.int .i64 0,(.slice none 0 0)] 82 (0,0)))∧Aside0 (w'.heap[gb102]? =some (.cells #[.string x103000_3,.int .i64 x103001_3,.int .i64 x103002_3] 33 (0,0)))∧Aside0 (w'.heap[gb107]? =some (.cells #[.int .i64 t106,u108001] 82 (0,0)))∧Aside0 (w'.heap[gb112]? =some (.cells #[.string t108,.int .i64 t109,.int .i64 t110] 33 (0,0)))∧Aside0 (Below w.heap.size w w'))
      case atStart=>exact⟨(0),(t108),(t109),(t110),(x108001_1),(u108001),qF_,H',⟨Nat.le_refl _⟩,⟨by(with_reducible repeat(first|apply Kd.R_alloc|apply Kd.R_drewN|apply Kd.R_drew));exact Kd.R_mono (Kd.R_far (p:=⟨gb102,2,none⟩) (Kd.R_far (p:=⟨gb102,1,none⟩) (Kd.R_far (p:=⟨gb102,0,none⟩) (Kd.R_far (p:=⟨gb112,2,none⟩) (Kd.R_far (p:=⟨gb112,1,none⟩) (Kd.R_far (p:=⟨gb112,0,none⟩) (Kd.R_types (Kd.R_types HO_108001.out BK112.out (by decide)) BK102.out (by decide)) (fun _ hk=>hk.1.2) (.string t108)) (fun _ hk=>hk.1.2) (.int .i64 t109)) (fun _ hk=>hk.1.2) (.int .i64 t110)) (fun _ hk=>hk.2) (.string t108)) (fun _ hk=>hk.2) (.int .i64 t109)) (fun _ hk=>hk.2) (.int .i64 t110)) (fun _ hk=>trivial)⟩,⟨by(with_reducible repeat(first|refine zY ?_ _|refine zAq ?_|refine zZ ?_ _));refine blk_far ?_ NB101_102.out _;(with_reducible repeat(first|refine zY ?_ _|refine zAq ?_|refine zZ ?_ _));refine blk_far ?_ NB101_102.out _;(with_reducible repeat(first|refine zY ?_ _|refine zAq ?_|refine zZ ?_ _));refine blk_far ?_ NB101_102.out _;(with_reducible repeat(first|refine zY ?_ _|refine zAq ?_|refine zZ ?_ _));refine blk_far ?_ NB101_112.out _;(with_reducible repeat(first|refine zY ?_ _|refine zAq ?_|refine zZ ?_ _));refine blk_far ?_ NB101_112.out _;(with_reducible repeat(first|refine zY ?_ _|refine zAq ?_|refine zZ ?_ _));refine blk_far ?_ NB101_112.out _;exact BK101.out⟩,⟨by(with_reducible repeat(first|refine zY ?_ _|refine zAq ?_|refine zZ ?_ _));apply qP3;(with_reducible repeat(first|refine zY ?_ _|refine zAq ?_|refine zZ ?_ _));refine blk_far ?_ NB102_112.out _;(with_reducible repeat(first|refine zY ?_ _|refine zAq ?_|refine zZ ?_ _));refine blk_far ?_ NB102_112.out _;(with_reducible repeat(first|refine zY ?_ _|refine zAq ?_|refine zZ ?_ _));refine blk_far ?_ NB102_112.out _;exact BK102.out⟩,⟨by(with_reducible repeat(first|refine zY ?_ _|refine zAq ?_|refine zZ ?_ _));refine blk_far ?_ NB107_102.out _;(with_reducible repeat(first|refine zY ?_ _|refine zAq ?_|refine zZ ?_ _));refine blk_far ?_ NB107_102.out _;(with_reducible repeat(first|refine zY ?_ _|refine zAq ?_|refine zZ ?_ _));refine blk_far ?_ NB107_102.out _;(with_reducible repeat(first|refine zY ?_ _|refine zAq ?_|refine zZ ?_ _));refine blk_far ?_ NB107_112.out _;(with_reducible repeat(first|refine zY ?_ _|refine zAq ?_|refine zZ ?_ _));refine blk_far ?_ NB107_112.out _;(with_reducible repeat(first|refine zY ?_ _|refine zAq ?_|refine zZ ?_ _));refine blk_far ?_ NB107_112.out _;exact BK107.out⟩,⟨by(with_reducible repeat(first|refine zY ?_ _|refine zAq ?_|refine zZ ?_ _));refine blk_far ?_ NB112_102.out _;(with_reducible repeat(first|refine zY ?_ _|refine zAq ?_|refine zZ ?_ _));refine blk_far ?_ NB112_102.out _;(with_reducible repeat(first|refine zY ?_ _|refine zAq ?_|refine zZ ?_ _));refine blk_far ?_ NB112_102.out _;(with_reducible repeat(first|refine zY ?_ _|refine zAq ?_|refine zZ ?_ _));apply qP3;exact BK112.out⟩,⟨qB⟩⟩
      case round=>
       clear H';try clear c1
       try clear c2
       try clear p2
       try clear c5
       try clear c6
       try clear c10
       try clear c11
       try clear c14
       try clear c14b0
       try clear c15
       try clear c16
       try clear c18
       try clear c20
       try clear c21
       try clear c25
       try clear c26
       try clear c27
       try clear p2
       obtain⟨x10_3,x103000_3,x103001_3,x103002_3,x108001_3,u108001,rfl,HA,HK3,HO_108001,BK101,BK102,BK107,BK112,HB⟩:=hrel;cases gk with
       |zero=>exact absurd HA.out (by simp[aD.l1])
       |succ k3=>
        have H:=HA.out;clear HA;simp only[aD.l1] at H;have HC30:=zA H;clear H;go_upto_region 10 with(fail)
        go_cut[47] (fun v47 wc=> ∃ (kq:Nat) (x47_29:Bool),v47= .bool x47_29∧Aside0 (aD.j3 kq t106 x7_1 t111 x10_3 x47_29 x103000_3 x103001_3 x103002_3 t106 x108001_3=some (r1,r2,r3))∧Aside0 (kq≤k3)∧Aside0 (Kd.R k169 169 wc w.heap.size (fun _=>True) u108001 x108001_3)∧Aside0 (wc.heap[gb101]? =some (.cells #[.int .i64 0,(.slice none 0 0)] 82 (0,0)))∧Aside0 (wc.heap[gb102]? =some (.cells #[.string x103000_3,.int .i64 x103001_3,.int .i64 x103002_3] 33 (0,0)))∧Aside0 (wc.heap[gb107]? =some (.cells #[.int .i64 t106,u108001] 82 (0,0)))∧Aside0 (wc.heap[gb112]? =some (.cells #[.string t108,.int .i64 t109,.int .i64 t110] 33 (0,0)))∧Aside0 (Below w.heap.size w wc))
        case first=>
         have H:=HC30.out;clear HC30;by_cases c31:x10_3 < t111
         ·rw[if_pos c31] at H
          have c31b0:=zFq c31;clear c31;(first|rw[c31b0] |(simp only[i64_w,i32_w];rw[c31b0])|skip)
          have H':=zA H;clear H;have hnb32:=NB102_101.out;have hnc32:=NB101_102.out;have hnb33:=NB102_107.out;have hnc33:=NB107_102.out;have hnb34:=NB102_112.out;have hnc34:=NB112_102.out;obtain⟨_,_,_,_,_,_⟩:=qc3f BK102.out;go_wp2;go_meet
          case rel=>exact⟨_,((x103002_3==0)),qF_,H',⟨by have:=HK1.out;have:=HJ12.out;have:=HK3.out;first|omega|exact Nat.le_refl _⟩,⟨qR_ HO_108001.out⟩,⟨by exact BK101.out⟩,⟨by exact BK102.out⟩,⟨by exact BK107.out⟩,⟨by exact BK112.out⟩,⟨qB⟩⟩
         rw[if_neg c31] at H;have c31b0:=zGq c31;clear c31;(first|rw[c31b0] |(simp only[i64_w,i32_w];rw[c31b0])|skip)
         have H':=zA H;clear H;go_wp2;go_meet
         case rel=>exact⟨_,(false),qF_,H',⟨by have:=HK1.out;have:=HJ12.out;have:=HK3.out;first|omega|exact Nat.le_refl _⟩,⟨qR_ HO_108001.out⟩,⟨by exact BK101.out⟩,⟨by exact BK102.out⟩,⟨by exact BK107.out⟩,⟨by exact BK112.out⟩,⟨qB⟩⟩
        case rest=>
         clear HC30;try clear c1
         try clear c2
         try clear p2
         try clear c3
         try clear c5
         try clear c6
         try clear c10
         try clear c11
         try clear c14
         try clear c14b0
         try clear c15
         try clear c16
         try clear c18
         try clear c20
         try clear c21
         try clear c25
         try clear c26
         try clear c27
         try clear c31
         try clear c31b0
         try clear c32
         try clear c33
         try clear c34
         try clear p2
         obtain⟨kq,x47_29,rfl,HA,HJ29,HO_108001,BK101,BK102,BK107,BK112,HB⟩:=hcut;cases kq with
         |zero=>exact absurd HA.out (by simp[aD.j3])
         |succ kj29=>
          have H:=HA.out;clear HA;simp only[aD.j3] at H;by_cases c36:x47_29=true
          ·subst c36
           have H1:((aZ.f kj29 x103000_3 x103001_3 x103002_3 4 999999).bind fun bt113=> ((bX.f kj29 bt113.1 bt113.2.1 bt113.2.2.1 200).bind fun bt118=> (if x108001_3.length < 4398046511104 then(aD.l1 kj29 t106 x7_1 t111 (wrap64 (x10_3+1)) bt118.1 bt118.2.1 bt118.2.2.1 t106 (x108001_3++ [(⟨x7_1,bt113.2.2.2,bt118.2.2.2⟩:S169)]))else(none))))=some (r1,r2,r3):=by first|(rw[if_pos rfl] at H;exact H)|rfl
           clear H;have H:=H1;clear H1;obtain⟨⟨t113,t114,t115,t116⟩,A37,H⟩:=qD_ H;(try dsimp only at H);obtain⟨⟨t118,t119,t120,t121⟩,A38,H⟩:=qD_ H;(try dsimp only at H);by_cases c39:x108001_3.length < 4398046511104
           ·rw[if_pos c39] at H
            have LMc39:=zA c39;clear c39;obtain⟨y123,hy123⟩: ∃ y_:List (S169),y_=(x108001_3++ [(⟨x7_1,t116,t121⟩:S169)]):=⟨_,rfl⟩
            replace H:(aD.l1 kj29 t106 x7_1 t111 (wrap64 (x10_3+1)) t118 t119 t120 t106 y123)=some (r1,r2,r3):=by first|(rw[hy123];with_reducible exact H)|(have H2_:=(Option.bind_some _ _).symm.trans H;rw[hy123];with_reducible exact H2_)|(have H2_:=(Option.bind_some _ _).symm.trans H;with_reducible exact H2_)|with_reducible exact H|(rw[hy123];exact H)|exact H
            have Ny123:=zA hy123;clear hy123;have H':=zA H;clear H;have hnb40:=NB102_101.out;have hnc40:=NB101_102.out;have hnb41:=NB102_107.out;have hnc41:=NB107_102.out;have hnb42:=NB102_112.out;have hnc42:=NB112_102.out;obtain⟨_,_,_,_,_,_⟩:=qc3f BK102.out;go_wp2_with (first|((with_reducible refine zJq (f:=64) rfl ?_);refine goesL_ (some 52) rfl rfl Try.func64 (by kernel_rfl) rfl #[.agg #[.string x103000_3,.int .i64 x103001_3,.int .i64 x103002_3],.int .i64 4,.int .i64 999999] rfl qG ?_;(with_reducible refine(aZ.calls kj29 x103000_3 x103001_3 x103002_3 4 999999 t113 t114 t115 t116 _ A37.out).mono ?_);rintro e w44 ⟨rfl,hb⟩;refine⟨_,rfl,?_⟩;replace HO_108001:=zA (Kd.R_below (qR_ HO_108001.out) hb);replace BK101:=zA (qX BK101.out hb);replace BK102:=zA (qX BK102.out hb);replace BK107:=zA (qX BK107.out hb);replace BK112:=zA (qX BK112.out hb);replace HB:=zA (zV qB hb);(try clear hb))|((with_reducible refine gate_dst (N:=11) rfl ?_);refine box_event qr (N:=11) qr (cs:= #[.string (⟨#[]⟩:ByteArray),.int .i64 0,.int .i64 0]) (t:=33) qg ?_;intro gb117 hg w45 hbox hb;replace HO_108001:=zA (Kd.R_below (qR_ HO_108001.out) hb);have BK117:=zA (hbox);have GW117:=zA ((qS:w.heap.size≤gb117));have GE117:=zA ((qS:w.heap.size≤gb117));replace HB:=zA (zV qB hb);have NB101_117:=zA ((by rw[hg];exact zLq (qL BK101.out):gb101≠gb117));have NB117_101:=zA ((by rw[hg];exact zMq (qL BK101.out):gb117≠gb101));replace BK101:=zA (qX BK101.out hb);have NB102_117:=zA ((by rw[hg];exact zLq (qL BK102.out):gb102≠gb117));have NB117_102:=zA ((by rw[hg];exact zMq (qL BK102.out):gb117≠gb102));replace BK102:=zA (qX BK102.out hb);have NB107_117:=zA ((by rw[hg];exact zLq (qL BK107.out):gb107≠gb117));have NB117_107:=zA ((by rw[hg];exact zMq (qL BK107.out):gb117≠gb107));replace BK107:=zA (qX BK107.out hb);have NB112_117:=zA ((by rw[hg];exact zLq (qL BK112.out):gb112≠gb117));have NB117_112:=zA ((by rw[hg];exact zMq (qL BK112.out):gb117≠gb112));replace BK112:=zA (qX BK112.out hb);clear hb hbox hg;have hnb46:=NB117_101.out;have hnc46:=NB101_117.out;have hnb47:=NB117_102.out;have hnc47:=NB102_117.out;have hnb48:=NB117_107.out;have hnc48:=NB107_117.out;have hnb49:=NB117_112.out;have hnc49:=NB112_117.out;obtain⟨_,_,_,_,_,_⟩:=qc3f BK117.out)|((with_reducible refine zJq (f:=65) rfl ?_);refine goesL_ (some 57) rfl rfl Try.func65 (by kernel_rfl) rfl #[.agg #[.string t113,.int .i64 t114,.int .i64 t115],.int .i64 200] rfl qG ?_;(with_reducible refine(bX.calls kj29 t113 t114 t115 200 t118 t119 t120 t121 _ A38.out).mono ?_);rintro e w51 ⟨rfl,hb⟩;refine⟨_,rfl,?_⟩;replace HO_108001:=zA (Kd.R_below (by(with_reducible repeat(first|apply Kd.R_alloc|apply Kd.R_drewN|apply Kd.R_drew));exact(Kd.R_mono (Kd.R_far (p:=⟨gb117,2,none⟩) (Kd.R_far (p:=⟨gb117,1,none⟩) (Kd.R_far (p:=⟨gb117,0,none⟩) (Kd.R_types HO_108001.out BK117.out (by decide)) (fun _ hk=>hk.2) (.string t113)) (fun _ hk=>hk.2) (.int .i64 t114)) (fun _ hk=>hk.2) (.int .i64 t115)) (fun _ h_=>h_.1))) hb);replace BK101:=zA (qX BK101.out hb);replace BK102:=zA (qX BK102.out hb);replace BK107:=zA (qX BK107.out hb);replace BK112:=zA (qX BK112.out hb);replace BK117:=zA (zX (g:=gb117) (o:= .cells #[.string t113,.int .i64 t114,.int .i64 t115] 33 (0,0)) (qV BK117.out) hb);replace HB:=zA (zV qB hb);(try clear hb))|((with_reducible refine gate_dst (N:=13) rfl ?_);refine box_event qr (N:=13) qr (cs:= #[.string (⟨#[]⟩:ByteArray),.int .i64 0,.int .i64 0]) (t:=33) qg ?_;intro gb122 hg w52 hbox hb;replace HO_108001:=zA (Kd.R_below (qR_ HO_108001.out) hb);have BK122:=zA (hbox);have GW122:=zA ((qS:w.heap.size≤gb122));have GE122:=zA ((qS:w.heap.size≤gb122));replace HB:=zA (zV qB hb);have NB101_122:=zA ((by rw[hg];exact zLq (qL BK101.out):gb101≠gb122));have NB122_101:=zA ((by rw[hg];exact zMq (qL BK101.out):gb122≠gb101));replace BK101:=zA (qX BK101.out hb);have NB102_122:=zA ((by rw[hg];exact zLq (qL BK102.out):gb102≠gb122));have NB122_102:=zA ((by rw[hg];exact zMq (qL BK102.out):gb122≠gb102));replace BK102:=zA (qX BK102.out hb);have NB107_122:=zA ((by rw[hg];exact zLq (qL BK107.out):gb107≠gb122));have NB122_107:=zA ((by rw[hg];exact zMq (qL BK107.out):gb122≠gb107));replace BK107:=zA (qX BK107.out hb);have NB112_122:=zA ((by rw[hg];exact zLq (qL BK112.out):gb112≠gb122));have NB122_112:=zA ((by rw[hg];exact zMq (qL BK112.out):gb122≠gb112));replace BK112:=zA (qX BK112.out hb);have NB117_122:=zA ((by rw[hg];exact zLq (qL BK117.out):gb117≠gb122));have NB122_117:=zA ((by rw[hg];exact zMq (qL BK117.out):gb122≠gb117));replace BK117:=zA (qX BK117.out hb);clear hb hbox hg;have hnb53:=NB122_101.out;have hnc53:=NB101_122.out;have hnb54:=NB122_102.out;have hnc54:=NB102_122.out;have hnb55:=NB122_107.out;have hnc55:=NB107_122.out;have hnb56:=NB122_112.out;have hnc56:=NB112_122.out;have hnb57:=NB122_117.out;have hnc57:=NB117_122.out;obtain⟨_,_,_,_,_,_⟩:=qc3f BK122.out;obtain⟨_,_,_,_,_,_⟩:=qc3f BK102.out;have hnb60:=NB107_101.out;have hnc60:=NB101_107.out;have hnb61:=NB107_112.out;have hnc61:=NB112_107.out;obtain⟨_,_,_,_⟩:=qc2f BK107.out)|((with_reducible refine gate_builtin (b:= .append) (xs:= #[.tmp 62,.tmp 67]) rfl ?_);at_builtin;refine Kd.R_append k169 (w0:=w) w.heap.size rfl (.tmp 62) (.tmp 67) 80 169 (.agg #[(.int .i64 0),(.int .i64 0),(.string ⟨#[]⟩)]) 32 rfl Try.underlying80 info169 rfl (by decide) (by omega) u108001 x108001_3 (⟨x7_1,t116,t121⟩:S169) [.int .i64 x7_1,.int .i64 t116,.string t121] (fun _=>True) (fun _=>False) rfl (by first|(go_simp;done)|(go_simp;rfl)) ?aP (fun _ hk=>hk.elim) ?aF ?aO ?aB ?aS ?aL ?_;(case aP=>exact k169_mkM _ _ _ (⟨x7_1,t116,t121⟩:S169));(case aB=>exact qB);(case aF=>exact(fun _ _=>trivial));(case aO=>exact(by(with_reducible repeat(first|apply Kd.R_alloc|apply Kd.R_drewN|apply Kd.R_drew));exact Kd.R_mono (Kd.R_far (p:=⟨gb102,2,none⟩) (Kd.R_far (p:=⟨gb102,1,none⟩) (Kd.R_far (p:=⟨gb102,0,none⟩) (Kd.R_far (p:=⟨gb122,2,none⟩) (Kd.R_far (p:=⟨gb122,1,none⟩) (Kd.R_far (p:=⟨gb122,0,none⟩) (Kd.R_types (Kd.R_types HO_108001.out BK122.out (by decide)) BK102.out (by decide)) (fun _ hk=>hk.1.2) (.string t118)) (fun _ hk=>hk.1.2) (.int .i64 t119)) (fun _ hk=>hk.1.2) (.int .i64 t120)) (fun _ hk=>hk.2) (.string t118)) (fun _ hk=>hk.2) (.int .i64 t119)) (fun _ hk=>hk.2) (.int .i64 t120)) (fun _ hk=>trivial)));(case aS=>exact(zW qB));(case aL=>have:=LMc39.out;omega);intro v124 w63 ho hb hg hat;rw[←Ny123.out] at ho;replace BK101:=zA (blk_grown (g:=gb101) (o:= .cells #[.int .i64 0,.slice none 0 0] 82 (0,0)) (qW BK101.out) hg (Kd.R_ne HO_108001.out BK101.out (by decide)));replace BK102:=zA (blk_grown (g:=gb102) (o:= .cells #[.string t118,.int .i64 t119,.int .i64 t120] 33 (0,0)) (qV BK102.out) hg (Kd.R_ne HO_108001.out BK102.out (by decide)));replace BK107:=zA (blk_grown (g:=gb107) (o:= .cells #[.int .i64 t106,u108001] 82 (0,0)) (qW BK107.out) hg (Kd.R_ne HO_108001.out BK107.out (by decide)));replace BK112:=zA (blk_grown (g:=gb112) (o:= .cells #[.string t108,.int .i64 t109,.int .i64 t110] 33 (0,0)) (qW BK112.out) hg (Kd.R_ne HO_108001.out BK112.out (by decide)));replace BK117:=zA (blk_grown (g:=gb117) (o:= .cells #[.string t113,.int .i64 t114,.int .i64 t115] 33 (0,0)) (qW BK117.out) hg (Kd.R_ne HO_108001.out BK117.out (by decide)));replace BK122:=zA (blk_grown (g:=gb122) (o:= .cells #[.string t118,.int .i64 t119,.int .i64 t120] 33 (0,0)) (qV BK122.out) hg (Kd.R_ne HO_108001.out BK122.out (by decide)));replace HB:=zA (hb);have HO125:=zA (ho);clear HO_108001 ho hb hg hat;obtain⟨Ao64,co64,eo64⟩:=Kd.R_slice HO125.out;subst eo64;obtain⟨_,_,_,_⟩:=qc2f BK107.out))
            go_roundg kj29
            case measure=>have:=HK1.out;have:=HJ12.out;have:=HK3.out;have:=HJ29.out;omega
            case rel=>exact⟨(wrap64 (x10_3+1)),(t118),(t119),(t120),(y123),(.slice Ao64 y123.length co64),qF_,H',⟨by have:=HK1.out;have:=HJ12.out;have:=HK3.out;have:=HJ29.out;omega⟩,⟨by(with_reducible repeat(first|apply Kd.R_alloc|apply Kd.R_drewN|apply Kd.R_drew));exact Kd.R_mono (Kd.R_far (p:=⟨gb107,1,none⟩) (Kd.R_types HO125.out BK107.out (by decide)) (fun _ hk=>hk.2) (.slice Ao64 y123.length co64)) (fun _ hk=>trivial)⟩,⟨by(with_reducible repeat(first|refine zY ?_ _|refine zAq ?_|refine zZ ?_ _));refine blk_far ?_ NB101_107.out _;exact BK101.out⟩,⟨by(with_reducible repeat(first|refine zY ?_ _|refine zAq ?_|refine zZ ?_ _));refine blk_far ?_ NB102_107.out _;exact BK102.out⟩,⟨by(with_reducible repeat(first|refine zY ?_ _|refine zAq ?_|refine zZ ?_ _));refine blk_put (cs:= #[.int .i64 t106,u108001]) ?_ 1 _ rfl;exact BK107.out⟩,⟨by(with_reducible repeat(first|refine zY ?_ _|refine zAq ?_|refine zZ ?_ _));refine blk_far ?_ NB112_107.out _;exact BK112.out⟩,⟨qB⟩⟩
           rw[if_neg c39] at H;exact absurd H (by simp)
          replace c36:=Bool.eq_false_iff.mpr c36;subst c36;have H1:(aD.l0 kj29 t106 (wrap64 (x7_1+1)) x103000_3 x103001_3 x103002_3 t106 x108001_3)=some (r1,r2,r3):=by first|(rw[if_neg (show ¬ (false=true) by decide)] at H;exact H)|rfl
          clear H;have H:=H1;clear H1;have H':=zA H;clear H;go_wp2;go_roundg kj29
          case measure=>have:=HK1.out;have:=HJ12.out;have:=HK3.out;have:=HJ29.out;omega
          case rel=>exact⟨(wrap64 (x7_1+1)),(x103000_3),(x103001_3),(x103002_3),(x108001_3),(u108001),qF_,H',⟨by have:=HK1.out;have:=HJ12.out;have:=HK3.out;have:=HJ29.out;omega⟩,⟨qR_ HO_108001.out⟩,⟨by exact BK101.out⟩,⟨by exact BK102.out⟩,⟨by exact BK107.out⟩,⟨qB⟩⟩
     replace c18:=Bool.eq_false_iff.mpr c18;subst c18;have H1:((cJ.f x103000_1 x103001_1 x103002_1).bind fun bt126=> (if bt126.2.2=0 then((aE.f kj12 t106 x108001_1).bind fun t129=> (if t129=0 then(some (t106,x108001_1,0))else(some (0,([] :List (S169)),40))))else(some (0,([] :List (S169)),bt126.2.2))))=some (r1,r2,r3):=by first|(rw[if_neg (show ¬ (false=true) by decide)] at H;exact H)|rfl
     clear H;have H:=H1;clear H1;obtain⟨⟨t126,t127,t128⟩,A66,H⟩:=qD_ H;(try dsimp only at H);by_cases c67:t128=0
     ·rw[if_pos c67] at H
      have c67b0:(t128==0)=true:=beq_iff_eq.mpr c67;have c67b1:(t128 != 0)=false:=bne_eq_false_iff_eq.mpr c67;clear c67;obtain⟨t129,A68,H⟩:=qD_ H;(try dsimp only at H);by_cases c69:t129=0
      ·rw[if_pos c69] at H
       have c69b0:(t129==0)=true:=beq_iff_eq.mpr c69;have c69b1:(t129 != 0)=false:=bne_eq_false_iff_eq.mpr c69;clear c69;simp only[zNq,zOq] at H;obtain⟨rfl,rfl,rfl⟩:=H;have hnb70:=NB102_101.out;have hnc70:=NB101_102.out;have hnb71:=NB102_107.out;have hnc71:=NB107_102.out;obtain⟨_,_,_,_,_,_⟩:=qc3f BK102.out;go_wp2_with (first|((with_reducible refine zJq (f:=70) rfl ?_);refine goesL_ (some 71) rfl rfl Try.func70 (by kernel_rfl) rfl #[.agg #[.string x103000_1,.int .i64 x103001_1,.int .i64 x103002_1]] rfl qG ?_;(with_reducible refine(cJ.calls x103000_1 x103001_1 x103002_1 t126 t127 t128 _ A66.out).mono ?_);rintro e w73 ⟨rfl,hb⟩;refine⟨_,rfl,?_⟩;replace HO_108001:=zA (Kd.R_below (qR_ HO_108001.out) hb);replace BK101:=zA (qX BK101.out hb);replace BK102:=zA (qX BK102.out hb);replace BK107:=zA (qX BK107.out hb);replace HB:=zA (zV qB hb);(try clear hb);obtain⟨_,_,_,_,_,_⟩:=qc3f BK102.out;have hnb75:=NB107_101.out;have hnc75:=NB101_107.out;obtain⟨_,_,_,_⟩:=qc2f BK107.out;obtain⟨Ao77,co77,eo77⟩:=Kd.R_slice HO_108001.out;subst eo77)|((with_reducible refine zJq (f:=53) rfl ?_);refine goesL_ (some 79) rfl rfl Try.func53 (by kernel_rfl) rfl #[.agg #[.int .i64 t106,.slice Ao77 x108001_1.length co77]] rfl qG ?_;(with_reducible refine(aE.calls kj12 t106 _ _ x108001_1 t129 _ ?side1 ?side2 A68.out).mono ?_);(case side1=>refine(Kd.R_reads' (e:=169) (base:=w.heap.size) (ok:=fun k_=>True) (n:=x108001_1.length) (c:=co77) ?_).2.2;exact(by(with_reducible repeat(first|apply Kd.R_alloc|apply Kd.R_drewN|apply Kd.R_drew));exact(Kd.R_mono (Kd.R_far (p:=⟨gb102,2,none⟩) (Kd.R_far (p:=⟨gb102,1,none⟩) (Kd.R_far (p:=⟨gb102,0,none⟩) (Kd.R_types HO_108001.out BK102.out (by decide)) (fun _ hk=>hk.2) (.string t126)) (fun _ hk=>hk.2) (.int .i64 t127)) (fun _ hk=>hk.2) (.int .i64 t128)) (fun _ h_=>by first|exact h_.1|(have h2_:=h_.1;simp only[and_assoc,and_left_comm,and_comm] at h2_⊢;exact h2_)))));(case side2=>exact(Kd.R_reads' HO_108001.out).2.1);rintro e w78 ⟨rfl,hb⟩;refine⟨_,rfl,?_⟩;replace HO_108001:=zA (Kd.R_below (by(with_reducible repeat(first|apply Kd.R_alloc|apply Kd.R_drewN|apply Kd.R_drew));exact(Kd.R_mono (Kd.R_far (p:=⟨gb102,2,none⟩) (Kd.R_far (p:=⟨gb102,1,none⟩) (Kd.R_far (p:=⟨gb102,0,none⟩) (Kd.R_types HO_108001.out BK102.out (by decide)) (fun _ hk=>hk.2) (.string t126)) (fun _ hk=>hk.2) (.int .i64 t127)) (fun _ hk=>hk.2) (.int .i64 t128)) (fun _ h_=>h_.1))) hb);replace BK101:=zA (qX BK101.out hb);replace BK102:=zA (zX (g:=gb102) (o:= .cells #[.string t126,.int .i64 t127,.int .i64 t128] 33 (0,0)) (qV BK102.out) hb);replace BK107:=zA (qX BK107.out hb);replace HB:=zA (zV qB hb);(try clear hb);obtain⟨_,_,_,_⟩:=qc2f BK107.out;obtain⟨_,_,_,_⟩:=qc2f BK101.out))
       refine bodyPost_ret (results_ct rfl _ _ gb101 82 #[.int .i64 t106,.slice Ao77 x108001_1.length co77] (0,0) _ rfl (qV BK101.out) Try.underlying82 rfl (by kernel_rfl)) rfl ?_;exact⟨_,qE,by(with_reducible repeat(first|apply Kd.R_alloc|apply Kd.R_drewN|apply Kd.R_drew));exact Kd.R_mono (Kd.R_far (p:=⟨gb101,1,none⟩) (Kd.R_far (p:=⟨gb101,0,none⟩) (Kd.R_types HO_108001.out BK101.out (by decide)) (fun _ hk=>hk.2) (.int .i64 t106)) (fun _ hk=>hk.2) (.slice Ao77 x108001_1.length co77)) (fun _ hk=>trivial),qB⟩
      rw[if_neg c69] at H;have c69b0:(t129==0)=false:=beq_eq_false_iff_ne.mpr c69;have c69b1:(t129 != 0)=true:=bne_iff_ne.mpr c69;simp only[zNq,zOq] at H;obtain⟨rfl,rfl,rfl⟩:=H;have hnb81:=NB102_101.out;have hnc81:=NB101_102.out;have hnb82:=NB102_107.out;have hnc82:=NB107_102.out;obtain⟨_,_,_,_,_,_⟩:=qc3f BK102.out;go_wp2_with (first|((with_reducible refine zJq (f:=70) rfl ?_);refine goesL_ (some 71) rfl rfl Try.func70 (by kernel_rfl) rfl #[.agg #[.string x103000_1,.int .i64 x103001_1,.int .i64 x103002_1]] rfl qG ?_;(with_reducible refine(cJ.calls x103000_1 x103001_1 x103002_1 t126 t127 t128 _ A66.out).mono ?_);rintro e w84 ⟨rfl,hb⟩;refine⟨_,rfl,?_⟩;replace HO_108001:=zA (Kd.R_below (qR_ HO_108001.out) hb);replace BK101:=zA (qX BK101.out hb);replace BK102:=zA (qX BK102.out hb);replace BK107:=zA (qX BK107.out hb);replace HB:=zA (zV qB hb);(try clear hb);obtain⟨_,_,_,_,_,_⟩:=qc3f BK102.out;have hnb86:=NB107_101.out;have hnc86:=NB101_107.out;obtain⟨_,_,_,_⟩:=qc2f BK107.out;obtain⟨Ao88,co88,eo88⟩:=Kd.R_slice HO_108001.out;subst eo88)|((with_reducible refine zJq (f:=53) rfl ?_);refine goesL_ (some 79) rfl rfl Try.func53 (by kernel_rfl) rfl #[.agg #[.int .i64 t106,.slice Ao88 x108001_1.length co88]] rfl qG ?_;(with_reducible refine(aE.calls kj12 t106 _ _ x108001_1 t129 _ ?side1 ?side2 A68.out).mono ?_);(case side1=>refine(Kd.R_reads' (e:=169) (base:=w.heap.size) (ok:=fun k_=>True) (n:=x108001_1.length) (c:=co88) ?_).2.2;exact(by(with_reducible repeat(first|apply Kd.R_alloc|apply Kd.R_drewN|apply Kd.R_drew));exact(Kd.R_mono (Kd.R_far (p:=⟨gb102,2,none⟩) (Kd.R_far (p:=⟨gb102,1,none⟩) (Kd.R_far (p:=⟨gb102,0,none⟩) (Kd.R_types HO_108001.out BK102.out (by decide)) (fun _ hk=>hk.2) (.string t126)) (fun _ hk=>hk.2) (.int .i64 t127)) (fun _ hk=>hk.2) (.int .i64 t128)) (fun _ h_=>by first|exact h_.1|(have h2_:=h_.1;simp only[and_assoc,and_left_comm,and_comm] at h2_⊢;exact h2_)))));(case side2=>exact(Kd.R_reads' HO_108001.out).2.1);rintro e w89 ⟨rfl,hb⟩;refine⟨_,rfl,?_⟩;replace HO_108001:=zA (Kd.R_below (by(with_reducible repeat(first|apply Kd.R_alloc|apply Kd.R_drewN|apply Kd.R_drew));exact(Kd.R_mono (Kd.R_far (p:=⟨gb102,2,none⟩) (Kd.R_far (p:=⟨gb102,1,none⟩) (Kd.R_far (p:=⟨gb102,0,none⟩) (Kd.R_types HO_108001.out BK102.out (by decide)) (fun _ hk=>hk.2) (.string t126)) (fun _ hk=>hk.2) (.int .i64 t127)) (fun _ hk=>hk.2) (.int .i64 t128)) (fun _ h_=>h_.1))) hb);replace BK101:=zA (qX BK101.out hb);replace BK102:=zA (zX (g:=gb102) (o:= .cells #[.string t126,.int .i64 t127,.int .i64 t128] 33 (0,0)) (qV BK102.out) hb);replace BK107:=zA (qX BK107.out hb);replace HB:=zA (zV qB hb);(try clear hb);obtain⟨_,_,_,_⟩:=qc2f BK101.out))
      refine bodyPost_ret (results_ct rfl _ _ gb101 82 #[.int .i64 0,.slice none 0 0] (0,0) _ rfl (qV BK101.out) Try.underlying82 rfl (by kernel_rfl)) rfl ?_;exact⟨_,qE,qN,qB⟩
     rw[if_neg c67] at H;have c67b0:(t128==0)=false:=beq_eq_false_iff_ne.mpr c67;have c67b1:(t128 != 0)=true:=bne_iff_ne.mpr c67;simp only[zNq,zOq] at H;obtain⟨rfl,rfl,rfl⟩:=H;have hnb91:=NB102_101.out;have hnc91:=NB101_102.out;have hnb92:=NB102_107.out;have hnc92:=NB107_102.out;obtain⟨_,_,_,_,_,_⟩:=qc3f BK102.out;try go_wp2_with (first|((with_reducible refine zJq (f:=70) rfl ?_);refine goesL_ (some 71) rfl rfl Try.func70 (by kernel_rfl) rfl #[.agg #[.string x103000_1,.int .i64 x103001_1,.int .i64 x103002_1]] rfl qG ?_;(with_reducible refine(cJ.calls x103000_1 x103001_1 x103002_1 t126 t127 t128 _ A66.out).mono ?_);rintro e w94 ⟨rfl,hb⟩;refine⟨_,rfl,?_⟩;replace HO_108001:=zA (Kd.R_below (qR_ HO_108001.out) hb);replace BK101:=zA (qX BK101.out hb);replace BK102:=zA (qX BK102.out hb);replace BK107:=zA (qX BK107.out hb);replace HB:=zA (zV qB hb);(try clear hb);obtain⟨_,_,_,_,_,_⟩:=qc3f BK102.out))
     have n0_:Aside0 (Kd.R k169 169 (((w94.setCell ⟨gb102,0,none⟩ (.string t126)).setCell ⟨gb102,1,none⟩ (.int .i64 t127)).setCell ⟨gb102,2,none⟩ (.int .i64 t128)) w.heap.size (fun _=>True) u108001 x108001_1):=⟨by(with_reducible repeat(first|apply Kd.R_alloc|apply Kd.R_drewN|apply Kd.R_drew));exact Kd.R_mono (Kd.R_far (p:=⟨gb102,2,none⟩) (Kd.R_far (p:=⟨gb102,1,none⟩) (Kd.R_far (p:=⟨gb102,0,none⟩) (Kd.R_types HO_108001.out BK102.out (by decide)) (fun _ hk=>hk.2) (.string t126)) (fun _ hk=>hk.2) (.int .i64 t127)) (fun _ hk=>hk.2) (.int .i64 t128)) (fun _ hk=>trivial)⟩
     have n1_:Aside0 ((((w94.setCell ⟨gb102,0,none⟩ (.string t126)).setCell ⟨gb102,1,none⟩ (.int .i64 t127)).setCell ⟨gb102,2,none⟩ (.int .i64 t128)).heap[gb101]? =some (.cells #[.int .i64 0,.slice none 0 0] 82 (0,0))):=⟨by(with_reducible repeat(first|refine zY ?_ _|refine zAq ?_|refine zZ ?_ _));refine blk_far ?_ NB101_102.out _;(with_reducible repeat(first|refine zY ?_ _|refine zAq ?_|refine zZ ?_ _));refine blk_far ?_ NB101_102.out _;(with_reducible repeat(first|refine zY ?_ _|refine zAq ?_|refine zZ ?_ _));refine blk_far ?_ NB101_102.out _;exact BK101.out⟩
     have n2_:Aside0 ((((w94.setCell ⟨gb102,0,none⟩ (.string t126)).setCell ⟨gb102,1,none⟩ (.int .i64 t127)).setCell ⟨gb102,2,none⟩ (.int .i64 t128)).heap[gb102]? =some (.cells #[.string t126,.int .i64 t127,.int .i64 t128] 33 (0,0))):=⟨by(with_reducible repeat(first|refine zY ?_ _|refine zAq ?_|refine zZ ?_ _));apply qP3;exact BK102.out⟩
     have n3_:Aside0 ((((w94.setCell ⟨gb102,0,none⟩ (.string t126)).setCell ⟨gb102,1,none⟩ (.int .i64 t127)).setCell ⟨gb102,2,none⟩ (.int .i64 t128)).heap[gb107]? =some (.cells #[.int .i64 t106,u108001] 82 (0,0))):=⟨by(with_reducible repeat(first|refine zY ?_ _|refine zAq ?_|refine zZ ?_ _));refine blk_far ?_ NB107_102.out _;(with_reducible repeat(first|refine zY ?_ _|refine zAq ?_|refine zZ ?_ _));refine blk_far ?_ NB107_102.out _;(with_reducible repeat(first|refine zY ?_ _|refine zAq ?_|refine zZ ?_ _));refine blk_far ?_ NB107_102.out _;exact BK107.out⟩
     have n4_:Aside0 (Below w.heap.size w (((w94.setCell ⟨gb102,0,none⟩ (.string t126)).setCell ⟨gb102,1,none⟩ (.int .i64 t127)).setCell ⟨gb102,2,none⟩ (.int .i64 t128))):=⟨qB⟩
     (try clear HO_108001);(try clear BK101);(try clear BK102);(try clear BK107);(try clear HB)
     generalize (((w94.setCell ⟨gb102,0,none⟩ (.string t126)).setCell ⟨gb102,1,none⟩ (.int .i64 t127)).setCell ⟨gb102,2,none⟩ (.int .i64 t128))=w96 at n0_ n1_ n2_ n3_ n4_⊢;have HO_108001:=n0_;have BK101:=n1_;have BK102:=n2_;have BK107:=n3_;have HB:=n4_;clear n0_ n1_ n2_ n3_ n4_;replace HO_108001:=zA (Kd.R_drew HO_108001.out);replace BK101:=zA (zAq BK101.out);replace BK102:=zA (zAq BK102.out);replace BK107:=zA (zAq BK107.out);replace HB:=zA (zC HB.out);refine start_ (n:=5) (S:=fun w'=>w'.cell? ⟨gb102,0,none⟩=some (.string t126)∧w'.cell? ⟨gb102,1,none⟩=some (.int .i64 t127)∧w'.cell? ⟨gb102,2,none⟩=some (.int .i64 t128)) (ds:=[]) #[false,false,false,false,false] (by kernel_rfl) rfl rfl ⟨(zF BK102.out 0).trans rfl,(zF BK102.out 1).trans rfl,(zF BK102.out 2).trans rfl⟩ (fun hHeld=>?_);generalize w96.drew=w97 at HO_108001 BK101 BK102 BK107 HB hHeld⊢;refine pure_ (i:=0) (N:=some 75) (v:=?_) (a':=?_) #[true,false,false,false,false] rfl rfl (by kernel_rfl) (fun _ _ _ h=>h) (Or.inl ⟨by rfl,?_⟩) ?_ ?_;rotate_left
     ·intro w'
      go_simp;with_reducible rfl
     rotate_left
     ·simp only[Act.put,zH,zI,zJ,i64_w,i32_w]
      rfl
     refine pure_ (i:=1) (N:=some 76) (v:=?_) (a':=?_) #[true,true,false,false,false] rfl rfl (by kernel_rfl) (fun _ _ _ h=>h) (Or.inl ⟨by rfl,?_⟩) ?_ ?_;rotate_left
     ·intro w'
      go_simp;with_reducible rfl
     rotate_left
     ·simp only[Act.put,zH,zI,zJ,i64_w,i32_w]
      rfl
     refine take_ (i:=2) (N:=some 77) (v:=?_) (a':=?_) #[true,true,true,false,false] rfl rfl (by kernel_rfl) (fun _ _ _ h=>h) (Or.inl ⟨by rfl,?_⟩) hHeld ?_ ?_;rotate_left
     ·rintro w' ⟨s0,s1,s2⟩
      go_simp;with_reducible rfl
     rotate_left
     ·simp only[Act.put,zH,zI,zJ,i64_w,i32_w]
      rfl
     refine one_ (i:=3) (N:=none) #[true,true,true,true,false] rfl rfl (by kernel_rfl) (by decide) (fun K hK=>?_);have hs98:w97.cell? ⟨gb101,0,none⟩=some (.int .i64 0):=(zF BK101.out 0).trans rfl;have hfs98:=zG BK101.out 0;have hns98_1:=NB102_101.out;have hns98_2:=NB107_101.out;have hms98_1:=NB101_102.out;have hms98_2:=NB101_107.out;have hs99:w97.cell? ⟨gb101,1,none⟩=some (.slice none 0 0):=(zF BK101.out 1).trans rfl;have hfs99:=zG BK101.out 1;have hns99_1:=NB102_101.out;have hns99_2:=NB107_101.out;have hms99_1:=NB101_102.out;have hms99_2:=NB101_107.out;refine skip_ (w1:=?_) (by rfl) rfl ?_ ?_;rotate_left
     ·go_simp
      rfl
     refine hK.out _ _ ⟨((cell_far (p:=⟨gb101,_,none⟩) NB102_101.out _).trans (((cell_far (p:=⟨gb101,_,none⟩) NB102_101.out _).trans (hHeld.1)))),((cell_far (p:=⟨gb101,_,none⟩) NB102_101.out _).trans (((cell_far (p:=⟨gb101,_,none⟩) NB102_101.out _).trans (hHeld.2.1)))),((cell_far (p:=⟨gb101,_,none⟩) NB102_101.out _).trans (((cell_far (p:=⟨gb101,_,none⟩) NB102_101.out _).trans (hHeld.2.2))))⟩ (fun hHeld=>?_);clear hK K;refine pure_ (i:=4) (N:=some 3) (v:=?_) (a':=?_) #[true,true,true,true,true] rfl rfl (by kernel_rfl) (fun _ _ _ h=>h) (Or.inl ⟨by rfl,?_⟩) ?_ ?_;rotate_left
     ·intro w'
      go_simp;with_reducible rfl
     rotate_left
     ·simp only[Act.put,zH,zI,zJ,i64_w,i32_w]
      rfl
     refine done_ (by kernel_rfl) ?_;try go_wp2
     refine bodyPost_ret (results_ct rfl _ _ gb101 82 #[.int .i64 0,.slice none 0 0] (0,0) _ rfl (qV BK101.out) Try.underlying82 rfl (by kernel_rfl)) rfl ?_;exact⟨_,qE,qN,qB⟩
def bB.l0:Nat→Int→Int→Int→Int→List (S169)→Option (Int)
  |0,_,_,_,_,_=>none
  |k+1,x1,x2,x7,x102000,x102001=>if x7 < (x102001.length:Int)then(if 0≤x7 then(if((rd_T169 x102001 x7).f0)=x1 then(if((rd_T169 x102001 x7).f1)=x2 then(some x7)else(bB.l0 k x1 x2 (wrap64 (x7+1)) x102000 x102001))else(bB.l0 k x1 x2 (wrap64 (x7+1)) x102000 x102001))else(none))else(some (-1))
def bB.f (k:Nat) (a0_0:Int) (l0_1:List (S169)) (a1:Int) (a2:Int):Option (Int):=bB.l0 k a1 a2 0 a0_0 l0_1
theorem bB.mono_l: ∀ k,(∀ y0 y1 y2 y3 y4,LeO (bB.l0 k y0 y1 y2 y3 y4) (bB.l0 (k+1) y0 y1 y2 y3 y4))
  |0=>fun _ _ _ _ _ r h=>by simp[bB.l0] at h
  |k+1=>by
    have ih0:=bB.mono_l k
    intro y0 y1 y2 y3 y4
    unfold bB.l0
    repeat' (with_reducible first|exact ih0 _ _ _ _ _|exact LeO.refl _|exact LeO.none _|refine LeO.ite ?_ ?_|refine LeO.bind ?_ (fun _=>?_))
theorem bB.mono: ∀ a0 a1 a2 a3 k,LeO (bB.f k a0 a1 a2 a3) (bB.f (k+1) a0 a1 a2 a3):=by
  intro a0 a1 a2 a3 k
  have ih0:=bB.mono_l k
  unfold bB.f
  repeat' (with_reducible first|exact ih0 _ _ _ _ _|exact LeO.refl _|exact LeO.none _|refine LeO.ite ?_ ?_|refine LeO.bind ?_ (fun _=>?_))
theorem bB.calls (k:Nat) (a0_0:Int) (A0_1:Option Addr) (c0_1:Nat) (l0_1:List (S169)) (a1:Int) (a2:Int) (r:Int) (w:World) (hr0_1:Kd.C k169 w A0_1 l0_1.length l0_1) (hc0_1:l0_1.length≤c0_1) (h:bB.f k a0_0 l0_1 a1 a2=some r):
  Calls Try.prog 103 #[.agg #[.int .i64 a0_0,.slice A0_1 l0_1.length c0_1],.int .i64 a1,.int .i64 a2] w fun e w'=>e= .returned (.int .i64 r)∧Below w.heap.size w w':=by
 have hu82:=Try.underlying82
 have HR0_1:=zA hr0_1
 have HC0_1:=zA hc0_1
 clear hr0_1 hc0_1
 have HB:=zA (Below.refl w.heap.size w)
 have H:(bB.l0 k a1 a2 0 a0_0 l0_1)=some r:=h
 clear h
 have H':=zA H
 clear H
 go_enter Try.func103,Try.ntmps103
 go_wp2_with (first|((with_reducible refine gate_dst (N:=3) rfl ?_);refine box_event qr (N:=3) qr (cs:= #[.int .i64 a0_0,.slice A0_1 l0_1.length c0_1]) (t:=82) qg ?_;intro gb101 hg w4 hbox hb;have BK101:=zA (hbox);have GW101:=zA ((qS:w.heap.size≤gb101));have GE101:=zA ((qS:w.heap.size≤gb101));replace HB:=zA (zV qB hb);clear hb hbox hg))
 go_loopg[7] k (fun kq v7 w'=> ∃ (x7_1:Int),v7= .int .i64 x7_1∧Aside0 (bB.l0 kq a1 a2 x7_1 a0_0 l0_1=some r)∧Aside0 (kq≤k)∧Aside0 (w'.heap[gb101]? =some (.cells #[.int .i64 a0_0,(.slice A0_1 l0_1.length c0_1)] 82 (0,0)))∧Aside0 (Below w.heap.size w w'))
 case atStart=>exact⟨(0),qF_,H',⟨Nat.le_refl _⟩,⟨by exact BK101.out⟩,⟨qB⟩⟩
 case round=>
  clear H';try clear c1
  try clear p2
  obtain⟨x7_1,rfl,HA,HK1,BK101,HB⟩:=hrel;cases gk with
  |zero=>exact absurd HA.out (by simp[bB.l0])
  |succ k1=>
   have H:=HA.out;clear HA;simp only[bB.l0] at H;by_cases c5:x7_1 < (l0_1.length:Int)
   ·rw[if_pos c5] at H
    have c5b0:=zFq c5;clear c5;by_cases c6:0≤x7_1
    ·rw[if_pos c6] at H
     have c6b0:=zFq c6;clear c6;by_cases c7:((rd_T169 l0_1 x7_1).f0)=a1
     ·rw[if_pos c7] at H
      have c7b0:(((rd_T169 l0_1 x7_1).f0)==a1)=true:=beq_iff_eq.mpr c7;have c7b1:(((rd_T169 l0_1 x7_1).f0) != a1)=false:=bne_eq_false_iff_eq.mpr c7;clear c7;by_cases c8:((rd_T169 l0_1 x7_1).f1)=a2
      ·rw[if_pos c8] at H
       have c8b0:(((rd_T169 l0_1 x7_1).f1)==a2)=true:=beq_iff_eq.mpr c8;have c8b1:(((rd_T169 l0_1 x7_1).f1) != a2)=false:=bne_eq_false_iff_eq.mpr c8;clear c8;obtain rfl:=zKq H;obtain⟨_,_,_,_⟩:=qc2f BK101.out;have p102:0≤(x7_1:Int):=qO_;have q102:x7_1 < (l0_1.length:Int):=qO_;obtain⟨ad102,e102,hx102_0,hx102_1,hx102_2⟩:=at_T169 HR0_1.out x7_1 p102 q102;cases e102
       replace hx102_0:=qU_ hx102_0;replace hx102_1:=qU_ hx102_1;replace hx102_2:=qU_ hx102_2;replace p102:=eq_true p102;replace q102:=eq_true q102;have p103:0≤(x7_1:Int):=qO_;have q103:x7_1 < (l0_1.length:Int):=qO_;obtain⟨ad103,e103,hx103_0,hx103_1,hx103_2⟩:=at_T169 HR0_1.out x7_1 p103 q103;obtain rfl:ad102=ad103:=(by injection e103)
       replace hx103_0:=qU_ hx103_0;replace hx103_1:=qU_ hx103_1;replace hx103_2:=qU_ hx103_2;replace p103:=eq_true p103;replace q103:=eq_true q103;go_wp2;go_ret;exact⟨qE,qB⟩
      rw[if_neg c8] at H;have c8b0:(((rd_T169 l0_1 x7_1).f1)==a2)=false:=beq_eq_false_iff_ne.mpr c8;have c8b1:(((rd_T169 l0_1 x7_1).f1) != a2)=true:=bne_iff_ne.mpr c8;have H':=zA H;clear H;obtain⟨_,_,_,_⟩:=qc2f BK101.out;have p102:0≤(x7_1:Int):=qO_;have q102:x7_1 < (l0_1.length:Int):=qO_;obtain⟨ad102,e102,hx102_0,hx102_1,hx102_2⟩:=at_T169 HR0_1.out x7_1 p102 q102;cases e102
      replace hx102_0:=qU_ hx102_0;replace hx102_1:=qU_ hx102_1;replace hx102_2:=qU_ hx102_2;replace p102:=eq_true p102;replace q102:=eq_true q102;have p103:0≤(x7_1:Int):=qO_;have q103:x7_1 < (l0_1.length:Int):=qO_;obtain⟨ad103,e103,hx103_0,hx103_1,hx103_2⟩:=at_T169 HR0_1.out x7_1 p103 q103;obtain rfl:ad102=ad103:=(by injection e103)
      replace hx103_0:=qU_ hx103_0;replace hx103_1:=qU_ hx103_1;replace hx103_2:=qU_ hx103_2;replace p103:=eq_true p103;replace q103:=eq_true q103;go_wp2;go_roundg k1
      case measure=>have:=HK1.out;omega
      case rel=>exact⟨(wrap64 (x7_1+1)),qF_,H',⟨by have:=HK1.out;omega⟩,⟨by exact BK101.out⟩,⟨qB⟩⟩
     rw[if_neg c7] at H;have c7b0:(((rd_T169 l0_1 x7_1).f0)==a1)=false:=beq_eq_false_iff_ne.mpr c7;have c7b1:(((rd_T169 l0_1 x7_1).f0) != a1)=true:=bne_iff_ne.mpr c7;have H':=zA H;clear H;obtain⟨_,_,_,_⟩:=qc2f BK101.out;have p102:0≤(x7_1:Int):=qO_;have q102:x7_1 < (l0_1.length:Int):=qO_;obtain⟨ad102,e102,hx102_0,hx102_1,hx102_2⟩:=at_T169 HR0_1.out x7_1 p102 q102;cases e102
     replace hx102_0:=qU_ hx102_0;replace hx102_1:=qU_ hx102_1;replace hx102_2:=qU_ hx102_2;replace p102:=eq_true p102;replace q102:=eq_true q102;go_wp2;go_roundg k1
     case measure=>have:=HK1.out;omega
     case rel=>exact⟨(wrap64 (x7_1+1)),qF_,H',⟨by have:=HK1.out;omega⟩,⟨by exact BK101.out⟩,⟨qB⟩⟩
    rw[if_neg c6] at H;exact absurd H (by simp)
   rw[if_neg c5] at H;have c5b0:=zGq c5;clear c5;obtain rfl:=zKq H;obtain⟨_,_,_,_⟩:=qc2f BK101.out;go_wp2;go_ret;exact⟨qE,qB⟩
mutual
def aA.j0:Nat→Bool→Int→List (S169)→Int→List (S169)→Option ((List (S173)) × Int)
  |0,_,_,_,_,_=>none
  |k+1,x19,x102000,x102001,x103000,x103001=>if x19=true then(some (([] :List (S173)),40))else(if x102000=x103000 then(aA.l0 k ([] :List (S173)) 0 x102000 x102001 x103000 x103001)else(some (([] :List (S173)),2)))
def aA.l0:Nat→List (S173)→Int→Int→List (S169)→Int→List (S169)→Option ((List (S173)) × Int)
  |0,_,_,_,_,_,_=>none
  |k+1,x6,x7,x102000,x102001,x103000,x103001=>if x7 < x102000 then(aA.l1 k x6 x7 0 x102000 x102001 x103000 x103001)else(some (x6,0))
def aA.l1:Nat→List (S173)→Int→Int→Int→List (S169)→Int→List (S169)→Option ((List (S173)) × Int)
  |0,_,_,_,_,_,_,_=>none
  |k+1,x6,x7,x8,x102000,x102001,x103000,x103001=>if x8 < (x102001.length:Int)then(if 0≤x8 then(if((rd_T169 x102001 x8).f0)=x7 then((bB.f k x103000 x103001 x7 ((rd_T169 x102001 x8).f1)).bind fun t107=> (if t107 < 0 then(if x6.length < 3518437208883 then(aA.l1 k (x6++ [(⟨x7,3,(rd_T169 x102001 x8).f1,(⟨#[]⟩:ByteArray)⟩:S173)]) x7 (wrap64 (x8+1)) x102000 x102001 x103000 x103001)else(none))else(aA.l1 k x6 x7 (wrap64 (x8+1)) x102000 x102001 x103000 x103001)))else(aA.l1 k x6 x7 (wrap64 (x8+1)) x102000 x102001 x103000 x103001))else(none))else(aA.l2 k x6 x7 0 x102000 x102001 x103000 x103001)
def aA.l2:Nat→List (S173)→Int→Int→Int→List (S169)→Int→List (S169)→Option ((List (S173)) × Int)
  |0,_,_,_,_,_,_,_=>none
  |k+1,x6,x7,x9,x102000,x102001,x103000,x103001=>if x9 < (x103001.length:Int)then(if 0≤x9 then(if((rd_T169 x103001 x9).f0)=x7 then((bB.f k x102000 x102001 x7 ((rd_T169 x103001 x9).f1)).bind fun t114=> (if t114 < 0 then(if x6.length < 3518437208883 then(aA.l2 k (x6++ [(⟨x7,1,(rd_T169 x103001 x9).f1,(rd_T169 x103001 x9).f2⟩:S173)]) x7 (wrap64 (x9+1)) x102000 x102001 x103000 x103001)else(none))else(if 0≤t114 then(if t114 < (x102001.length:Int)then(if((rd_T169 x102001 t114).f2).toList=((rd_T169 x103001 x9).f2).toList then(aA.l2 k x6 x7 (wrap64 (x9+1)) x102000 x102001 x103000 x103001)else(if x6.length < 3518437208883 then(aA.l2 k (x6++ [(⟨x7,2,(rd_T169 x103001 x9).f1,(rd_T169 x103001 x9).f2⟩:S173)]) x7 (wrap64 (x9+1)) x102000 x102001 x103000 x103001)else(none)))else(none))else(none))))else(aA.l2 k x6 x7 (wrap64 (x9+1)) x102000 x102001 x103000 x103001))else(none))else(aA.l0 k x6 (wrap64 (x7+1)) x102000 x102001 x103000 x103001)
end
def aA.f (k:Nat) (a0_0:Int) (l0_1:List (S169)) (a1_0:Int) (l1_1:List (S169)):Option ((List (S173)) × Int):=(aE.f k a0_0 l0_1).bind fun t103=> (if t103=0 then((aE.f k a1_0 l1_1).bind fun t104=> (aA.j0 k (t104 != 0) a0_0 l0_1 a1_0 l1_1))else(aA.j0 k true a0_0 l0_1 a1_0 l1_1))
theorem aA.mono_l: ∀ k,(∀ y0 y1 y2 y3 y4,LeO (aA.j0 k y0 y1 y2 y3 y4) (aA.j0 (k+1) y0 y1 y2 y3 y4))∧(∀ y0 y1 y2 y3 y4 y5,LeO (aA.l0 k y0 y1 y2 y3 y4 y5) (aA.l0 (k+1) y0 y1 y2 y3 y4 y5))∧(∀ y0 y1 y2 y3 y4 y5 y6,LeO (aA.l1 k y0 y1 y2 y3 y4 y5 y6) (aA.l1 (k+1) y0 y1 y2 y3 y4 y5 y6))∧(∀ y0 y1 y2 y3 y4 y5 y6,LeO (aA.l2 k y0 y1 y2 y3 y4 y5 y6) (aA.l2 (k+1) y0 y1 y2 y3 y4 y5 y6))
  |0=> ⟨fun _ _ _ _ _ r h=>by simp[aA.j0] at h,fun _ _ _ _ _ _ r h=>by simp[aA.l0] at h,fun _ _ _ _ _ _ _ r h=>by simp[aA.l1] at h,fun _ _ _ _ _ _ _ r h=>by simp[aA.l2] at h⟩
  |k+1=>by
    obtain⟨ih0,ih1,ih2,ih3⟩:=aA.mono_l k
    refine⟨?_,?_,?_,?_⟩
    · intro y0 y1 y2 y3 y4
      unfold aA.j0
      repeat' (with_reducible first|exact ih0 _ _ _ _ _|exact ih1 _ _ _ _ _ _|exact ih2 _ _ _ _ _ _ _|exact ih3 _ _ _ _ _ _ _|exact aE.mono _ _ _|exact bB.mono _ _ _ _ _|exact LeO.refl _|exact LeO.none _|refine LeO.ite ?_ ?_|refine LeO.bind ?_ (fun _=>?_))
    · intro y0 y1 y2 y3 y4 y5
      unfold aA.l0
      repeat' (with_reducible first|exact ih0 _ _ _ _ _|exact ih1 _ _ _ _ _ _|exact ih2 _ _ _ _ _ _ _|exact ih3 _ _ _ _ _ _ _|exact aE.mono _ _ _|exact bB.mono _ _ _ _ _|exact LeO.refl _|exact LeO.none _|refine LeO.ite ?_ ?_|refine LeO.bind ?_ (fun _=>?_))
    · intro y0 y1 y2 y3 y4 y5 y6
      unfold aA.l1
      repeat' (with_reducible first|exact ih0 _ _ _ _ _|exact ih1 _ _ _ _ _ _|exact ih2 _ _ _ _ _ _ _|exact ih3 _ _ _ _ _ _ _|exact aE.mono _ _ _|exact bB.mono _ _ _ _ _|exact LeO.refl _|exact LeO.none _|refine LeO.ite ?_ ?_|refine LeO.bind ?_ (fun _=>?_))
    intro y0 y1 y2 y3 y4 y5 y6
    unfold aA.l2
    repeat' (with_reducible first|exact ih0 _ _ _ _ _|exact ih1 _ _ _ _ _ _|exact ih2 _ _ _ _ _ _ _|exact ih3 _ _ _ _ _ _ _|exact aE.mono _ _ _|exact bB.mono _ _ _ _ _|exact LeO.refl _|exact LeO.none _|refine LeO.ite ?_ ?_|refine LeO.bind ?_ (fun _=>?_))
theorem aA.mono: ∀ a0 a1 a2 a3 k,LeO (aA.f k a0 a1 a2 a3) (aA.f (k+1) a0 a1 a2 a3):=by
  intro a0 a1 a2 a3 k
  obtain⟨ih0,ih1,ih2,ih3⟩:=aA.mono_l k
  unfold aA.f
  repeat' (with_reducible first|exact ih0 _ _ _ _ _|exact ih1 _ _ _ _ _ _|exact ih2 _ _ _ _ _ _ _|exact ih3 _ _ _ _ _ _ _|exact aE.mono _ _ _|exact bB.mono _ _ _ _ _|exact LeO.refl _|exact LeO.none _|refine LeO.ite ?_ ?_|refine LeO.bind ?_ (fun _=>?_))
def aA.T12:Bool × List (List Nat × List Nat):=(true,[([],[]),([0],[0]),([],[]),([1,2],[1,2]),([3],[3]),([4],[4]),([],[]),([5,6],[5,6]),([7],[7]),([8],[8]),([8],[8]),([8],[8]),([11,8],[8,11]),([8],[8]),([12,13,8],[8,12,13]),([14,8],[8,14]),([15,8],[8,15]),([9,10,16,8,8],[8,9,10,16]),([17,8],[8,17]),([8,18],[8,18])])
def aA.B12:List Nat:=[0,1,0,7,15,31,0,127,255,511,511,511,2559,511,14847,31231,63999,131071,262143,524287]
theorem aA.tab12:rtab .any (opsOf Try.f61 12)=aA.T12:=by kernel_rfl
theorem aA.bits12:waitsOk aA.T12.2 aA.B12=true:=by kernel_rfl
def aA.T22:Bool × List (List Nat × List Nat):=(true,[([],[]),([0],[0]),([],[]),([1,2],[1,2]),([3],[3]),([4],[4]),([],[]),([6],[6]),([5,7],[5,7])])
def aA.B22:List Nat:=[0,1,0,7,15,31,0,64,255]
theorem aA.tab22:rtab .any (opsOf Try.f61 22)=aA.T22:=by kernel_rfl
theorem aA.bits22:waitsOk aA.T22.2 aA.B22=true:=by kernel_rfl
theorem aA.calls (k:Nat) (a0_0:Int) (A0_1:Option Addr) (c0_1:Nat) (l0_1:List (S169)) (a1_0:Int) (A1_1:Option Addr) (c1_1:Nat) (l1_1:List (S169)) (r1:List (S173)) (r2:Int) (w:World) (hr0_1:Kd.C k169 w A0_1 l0_1.length l0_1) (hc0_1:l0_1.length≤c0_1) (hr1_1:Kd.C k169 w A1_1 l1_1.length l1_1) (hc1_1:l1_1.length≤c1_1) (h:aA.f k a0_0 l0_1 a1_0 l1_1=some (r1,r2)):
  Calls Try.prog 61 #[.agg #[.int .i64 a0_0,.slice A0_1 l0_1.length c0_1],.agg #[.int .i64 a1_0,.slice A1_1 l1_1.length c1_1]] w fun e w'=> ∃ v0_:Value,e= .returned (.tuple #[v0_,.int .i64 r2])∧Kd.R k173 173 w' w.heap.size (fun _=>True) v0_ r1∧Below w.heap.size w w':=by
 have hu82:=Try.underlying82
 have hu173:=Try.underlying173
 have hu169:=Try.underlying169
 have HR0_1:=zA hr0_1
 have HC0_1:=zA hc0_1
 clear hr0_1 hc0_1
 have HR1_1:=zA hr1_1
 have HC1_1:=zA hc1_1
 clear hr1_1 hc1_1
 have HB:=zA (Below.refl w.heap.size w)
 have H:((aE.f k a0_0 l0_1).bind fun t103=> (if t103=0 then((aE.f k a1_0 l1_1).bind fun t104=> (aA.j0 k (t104 != 0) a0_0 l0_1 a1_0 l1_1))else(aA.j0 k true a0_0 l0_1 a1_0 l1_1)))=some (r1,r2):=h
 clear h
 have HC3:=zA H
 clear H
 go_enter Try.func61,Try.ntmps61
 go_upto_region 1 with(first|((with_reducible refine gate_dst (N:=2) rfl ?_);refine box_event qr (N:=2) qr (cs:= #[.int .i64 a0_0,.slice A0_1 l0_1.length c0_1]) (t:=82) qg ?_;intro gb101 hg w4 hbox hb;have BK101:=zA (hbox);have GW101:=zA ((qS:w.heap.size≤gb101));have GE101:=zA ((qS:w.heap.size≤gb101));replace HB:=zA (zV qB hb);clear hb hbox hg)|((with_reducible refine gate_dst (N:=3) rfl ?_);refine box_event qr (N:=3) qr (cs:= #[.int .i64 a1_0,.slice A1_1 l1_1.length c1_1]) (t:=82) qg ?_;intro gb102 hg w5 hbox hb;have BK102:=zA (hbox);have GW102:=zA ((qS:w.heap.size≤gb102));have GE102:=zA ((qS:w.heap.size≤gb102));replace HB:=zA (zV qB hb);have NB101_102:=zA ((by rw[hg];exact zLq (qL BK101.out):gb101≠gb102));have NB102_101:=zA ((by rw[hg];exact zMq (qL BK101.out):gb102≠gb101));replace BK101:=zA (qX BK101.out hb);clear hb hbox hg))
 (try simp only[Act.put,zH,zI,zJ])
 go_cut[19] (fun v19 wc=> ∃ (kq:Nat) (x19_2:Bool),v19= .bool x19_2∧Aside0 (aA.j0 kq x19_2 a0_0 l0_1 a1_0 l1_1=some (r1,r2))∧Aside0 (kq≤k)∧Aside0 (wc.heap[gb101]? =some (.cells #[.int .i64 a0_0,(.slice A0_1 l0_1.length c0_1)] 82 (0,0)))∧Aside0 (wc.heap[gb102]? =some (.cells #[.int .i64 a1_0,(.slice A1_1 l1_1.length c1_1)] 82 (0,0)))∧Aside0 (Below w.heap.size w wc))
 case first=>
  have H:=HC3.out;clear HC3;obtain⟨t103,A6,H⟩:=qD_ H;(try dsimp only at H);by_cases c7:t103=0
  ·rw[if_pos c7] at H
   have c7b0:(t103==0)=true:=beq_iff_eq.mpr c7;have c7b1:(t103 != 0)=false:=bne_eq_false_iff_eq.mpr c7;clear c7;(first|rw[c7b0] |(simp only[i64_w,i32_w];rw[c7b0])|skip)
   obtain⟨t104,A8,H⟩:=qD_ H;(try dsimp only at H);have H':=zA H;clear H;have hnb9:=NB101_102.out;have hnc9:=NB102_101.out;obtain⟨_,_,_,_⟩:=qc2f BK101.out;go_wp2_with (first|((with_reducible refine zJq (f:=53) rfl ?_);refine goesL_ (some 13) rfl rfl Try.func53 (by kernel_rfl) rfl #[.agg #[.int .i64 a0_0,.slice A0_1 l0_1.length c0_1]] rfl qG ?_;(with_reducible refine(aE.calls k a0_0 _ _ l0_1 t103 _ ?side1 ?side2 A6.out).mono ?_);(case side1=>exact qC (Kd.C_below HR0_1.out HB.out));(case side2=>exact HC0_1.out);rintro e w11 ⟨rfl,hb⟩;refine⟨_,rfl,?_⟩;replace BK101:=zA (qX BK101.out hb);replace BK102:=zA (qX BK102.out hb);replace HB:=zA (zV qB hb);(try clear hb);obtain⟨_,_,_,_⟩:=qc2f BK102.out)|(go_at_call 53;(with_reducible refine(aE.calls k a1_0 _ _ l1_1 t104 _ ?side1 ?side2 A8.out).mono ?_);(case side1=>exact qC (Kd.C_below HR1_1.out HB.out));(case side2=>exact HC1_1.out);rintro e w13 ⟨rfl,hb⟩;replace BK101:=zA (qX BK101.out hb);replace BK102:=zA (qX BK102.out hb);replace HB:=zA (zV qB hb);(try clear hb)));go_meet
   case rel=>exact⟨_,((t104 != 0)),qF_,H',⟨by first|omega|exact Nat.le_refl _⟩,⟨by exact BK101.out⟩,⟨by exact BK102.out⟩,⟨qB⟩⟩
  rw[if_neg c7] at H;have c7b0:(t103==0)=false:=beq_eq_false_iff_ne.mpr c7;have c7b1:(t103 != 0)=true:=bne_iff_ne.mpr c7;(first|rw[c7b0] |(simp only[i64_w,i32_w];rw[c7b0])|skip)
  have H':=zA H;clear H;have hnb14:=NB101_102.out;have hnc14:=NB102_101.out;obtain⟨_,_,_,_⟩:=qc2f BK101.out;go_wp2_with (first|((with_reducible refine zJq (f:=53) rfl ?_);refine goesL_ (some 13) rfl rfl Try.func53 (by kernel_rfl) rfl #[.agg #[.int .i64 a0_0,.slice A0_1 l0_1.length c0_1]] rfl qG ?_;(with_reducible refine(aE.calls k a0_0 _ _ l0_1 t103 _ ?side1 ?side2 A6.out).mono ?_);(case side1=>exact qC (Kd.C_below HR0_1.out HB.out));(case side2=>exact HC0_1.out);rintro e w16 ⟨rfl,hb⟩;refine⟨_,rfl,?_⟩;replace BK101:=zA (qX BK101.out hb);replace BK102:=zA (qX BK102.out hb);replace HB:=zA (zV qB hb);(try clear hb)));go_meet
  case rel=>exact⟨_,(true),qF_,H',⟨by first|omega|exact Nat.le_refl _⟩,⟨by exact BK101.out⟩,⟨by exact BK102.out⟩,⟨qB⟩⟩
 case rest=>
  clear HC3;try clear c1
  try clear p2
  try clear c5
  try clear c6
  try clear c7
  try clear c7b0
  try clear c7b1
  try clear c9
  try clear c14
  obtain⟨kq,x19_2,rfl,HA,HJ2,BK101,BK102,HB⟩:=hcut;cases kq with
  |zero=>exact absurd HA.out (by simp[aA.j0])
  |succ kj2=>
   have H:=HA.out;clear HA;simp only[aA.j0] at H;by_cases c17:x19_2=true
   ·subst c17
    have H1:(some (([] :List (S173)),40))=some (r1,r2):=by first|(rw[if_pos rfl] at H;exact H)|rfl
    clear H;have H:=H1;clear H1;simp only[zNq,zOq] at H;obtain⟨rfl,rfl⟩:=H;go_wp2;go_ret2;exact⟨_,qE,qN,qB⟩
   replace c17:=Bool.eq_false_iff.mpr c17;subst c17;have H1:(if a0_0=a1_0 then(aA.l0 kj2 ([] :List (S173)) 0 a0_0 l0_1 a1_0 l1_1)else(some (([] :List (S173)),2)))=some (r1,r2):=by first|(rw[if_neg (show ¬ (false=true) by decide)] at H;exact H)|rfl
   clear H;have H:=H1;clear H1;by_cases c18:a0_0=a1_0
   ·rw[if_pos c18] at H
    have c18b0:(a0_0==a1_0)=true:=beq_iff_eq.mpr c18;have c18b1:(a0_0 != a1_0)=false:=bne_eq_false_iff_eq.mpr c18;clear c18;have H':=zA H;clear H;have hnb19:=NB101_102.out;have hnc19:=NB102_101.out;obtain⟨_,_,_,_⟩:=qc2f BK101.out;obtain⟨_,_,_,_⟩:=qc2f BK102.out;go_wp2;go_loopg[6,7] kj2 (fun kq v6 v7 w'=> ∃ (x6_2:List (S173)) (x7_2:Int),v7= .int .i64 x7_2∧Aside0 (aA.l0 kq x6_2 x7_2 a0_0 l0_1 a1_0 l1_1=some (r1,r2))∧Aside0 (kq≤kj2)∧Aside0 (Kd.R k173 173 w' w.heap.size (fun _=>True) v6 x6_2)∧Aside0 (w'.heap[gb101]? =some (.cells #[.int .i64 a0_0,(.slice A0_1 l0_1.length c0_1)] 82 (0,0)))∧Aside0 (w'.heap[gb102]? =some (.cells #[.int .i64 a1_0,(.slice A1_1 l1_1.length c1_1)] 82 (0,0)))∧Aside0 (Below w.heap.size w w'))
    case atStart=>exact⟨(([] :List (S173))),(0),qF_,H',⟨Nat.le_refl _⟩,⟨qN⟩,⟨by exact BK101.out⟩,⟨by exact BK102.out⟩,⟨qB⟩⟩
    case round=>
     clear H';try clear c1
     try clear p2
     try clear c5
     try clear c6
     try clear c7
     try clear c7b0
     try clear c7b1
     try clear c9
     try clear c14
     try clear c17
     try clear c18
     try clear c18b0
     try clear c18b1
     try clear c19
     try clear p2
     obtain⟨x6_2,x7_2,rfl,HA,HK2,HO_6,BK101,BK102,HB⟩:=hrel;cases gk with
     |zero=>exact absurd HA.out (by simp[aA.l0])
     |succ k2=>
      have H:=HA.out;clear HA;simp only[aA.l0] at H;by_cases c22:x7_2 < a0_0
      ·rw[if_pos c22] at H
       have c22b0:=zFq c22;clear c22;have H':=zA H;clear H;have hnb23:=NB101_102.out;have hnc23:=NB102_101.out;obtain⟨_,_,_,_⟩:=qc2f BK101.out;go_wp2;go_loopg[6,8] k2 (fun kq v6 v8 w'=> ∃ (x6_3:List (S173)) (x8_3:Int),v8= .int .i64 x8_3∧Aside0 (aA.l1 kq x6_3 x7_2 x8_3 a0_0 l0_1 a1_0 l1_1=some (r1,r2))∧Aside0 (kq≤k2)∧Aside0 (Kd.R k173 173 w' w.heap.size (fun _=>True) v6 x6_3)∧Aside0 (w'.heap[gb101]? =some (.cells #[.int .i64 a0_0,(.slice A0_1 l0_1.length c0_1)] 82 (0,0)))∧Aside0 (w'.heap[gb102]? =some (.cells #[.int .i64 a1_0,(.slice A1_1 l1_1.length c1_1)] 82 (0,0)))∧Aside0 (Below w.heap.size w w'))
       case atStart=>exact⟨(x6_2),(0),qF_,H',⟨Nat.le_refl _⟩,⟨qR_ HO_6.out⟩,⟨by exact BK101.out⟩,⟨by exact BK102.out⟩,⟨qB⟩⟩
       case round=>
        clear H';try clear c1
        try clear c2
        try clear p2
        try clear c5
        try clear c6
        try clear c7
        try clear c7b0
        try clear c7b1
        try clear c9
        try clear c14
        try clear c17
        try clear c18
        try clear c18b0
        try clear c18b1
        try clear c19
        try clear c22
        try clear c22b0
        try clear c23
        try clear p2
        obtain⟨x6_3,x8_3,rfl,HA,HK3,HO_6,BK101,BK102,HB⟩:=hrel;cases gk with
        |zero=>exact absurd HA.out (by simp[aA.l1])
        |succ k3=>
         have H:=HA.out;clear HA;simp only[aA.l1] at H;by_cases c25:x8_3 < (l0_1.length:Int)
         ·rw[if_pos c25] at H
          have c25b0:=zFq c25;clear c25;by_cases c26:0≤x8_3
          ·rw[if_pos c26] at H
           have c26b0:=zFq c26;clear c26;by_cases c27:((rd_T169 l0_1 x8_3).f0)=x7_2
           ·rw[if_pos c27] at H
            have c27b0:(((rd_T169 l0_1 x8_3).f0)==x7_2)=true:=beq_iff_eq.mpr c27;have c27b1:(((rd_T169 l0_1 x8_3).f0) != x7_2)=false:=bne_eq_false_iff_eq.mpr c27;clear c27;obtain⟨t107,A28,H⟩:=qD_ H;(try dsimp only at H);by_cases c29:t107 < 0
            ·rw[if_pos c29] at H
             have c29b0:=zFq c29;clear c29;by_cases c30:x6_3.length < 3518437208883
             ·rw[if_pos c30] at H
              have LMc30:=zA c30;clear c30;obtain⟨y109,hy109⟩: ∃ y_:List (S173),y_=(x6_3++ [(⟨x7_2,3,(rd_T169 l0_1 x8_3).f1,(⟨#[]⟩:ByteArray)⟩:S173)]):=⟨_,rfl⟩
              replace H:(aA.l1 k3 y109 x7_2 (wrap64 (x8_3+1)) a0_0 l0_1 a1_0 l1_1)=some (r1,r2):=by first|(rw[hy109];with_reducible exact H)|(have H2_:=(Option.bind_some _ _).symm.trans H;rw[hy109];with_reducible exact H2_)|(have H2_:=(Option.bind_some _ _).symm.trans H;with_reducible exact H2_)|with_reducible exact H|(rw[hy109];exact H)|exact H
              have Ny109:=zA hy109;clear hy109;have H':=zA H;clear H;have hnb31:=NB101_102.out;have hnc31:=NB102_101.out;obtain⟨_,_,_,_⟩:=qc2f BK101.out;try go_wp2
              replace HO_6:=zA (Kd.R_drew HO_6.out);replace BK101:=zA (zAq BK101.out);replace BK102:=zA (zAq BK102.out);replace HB:=zA (zC HB.out);have p105:0≤(x8_3:Int):=qO_;have q105:x8_3 < (l0_1.length:Int):=qO_;obtain⟨ad105,e105,hx105_0,hx105_1,hx105_2⟩:=at_T169 HR0_1.out x8_3 p105 q105;have hw105_2:=hx105_2;have hw105_1:=hx105_1;have hw105_0:=hx105_0;cases e105
              replace hx105_0:=qU_ hx105_0;replace hx105_1:=qU_ hx105_1;replace hx105_2:=qU_ hx105_2;replace p105:=eq_true p105;replace q105:=eq_true q105;have p106:0≤(x8_3:Int):=qO_;have q106:x8_3 < (l0_1.length:Int):=qO_;obtain⟨ad106,e106,hx106_0,hx106_1,hx106_2⟩:=at_T169 HR0_1.out x8_3 p106 q106;have hw106_2:=hx106_2;have hw106_1:=hx106_1;have hw106_0:=hx106_0;obtain rfl:ad105=ad106:=(by injection e106)
              replace hx106_0:=qU_ hx106_0;replace hx106_1:=qU_ hx106_1;replace hx106_2:=qU_ hx106_2;replace p106:=eq_true p106;replace q106:=eq_true q106;refine start_ (n:=20) (S:=fun w'=>w'.cell? ⟨gb101,0,none⟩=some (.int .i64 a0_0)∧w'.cell? ⟨gb101,1,none⟩=some (.slice (some ad105) l0_1.length c0_1)∧w'.cell? ⟨gb102,0,none⟩=some (.int .i64 a1_0)∧w'.cell? ⟨gb102,1,none⟩=some (.slice A1_1 l1_1.length c1_1)∧w'.cell? (ad105.add ((x8_3).toNat * 3))=some (.int .i64 ((rd_T169 l0_1 x8_3).f0))∧w'.cell? ⟨(ad105.add ((x8_3).toNat * 3)).block,(ad105.add ((x8_3).toNat * 3)).off+1,none⟩=some (.int .i64 ((rd_T169 l0_1 x8_3).f1))∧w'.cell? ⟨(ad105.add ((x8_3).toNat * 3)).block,(ad105.add ((x8_3).toNat * 3)).off+2,none⟩=some (.string ((rd_T169 l0_1 x8_3).f2))∧w'.cell? (ad105.add ((x8_3).toNat * 3))=some (.int .i64 ((rd_T169 l0_1 x8_3).f0))∧w'.cell? ⟨(ad105.add ((x8_3).toNat * 3)).block,(ad105.add ((x8_3).toNat * 3)).off+1,none⟩=some (.int .i64 ((rd_T169 l0_1 x8_3).f1))∧w'.cell? ⟨(ad105.add ((x8_3).toNat * 3)).block,(ad105.add ((x8_3).toNat * 3)).off+2,none⟩=some (.string ((rd_T169 l0_1 x8_3).f2))) (ds:=[]) #[O,O,O,O,O,O,O,O,O,O,O,O,O,O,O,O,O,O,O,O] (by kernel_rfl) rfl rfl ⟨(zF BK101.out 0).trans rfl,(zF BK101.out 1).trans rfl,(zF BK102.out 0).trans rfl,(zF BK102.out 1).trans rfl,(qU_ hw105_0),(qU_ hw105_1),(qU_ hw105_2),(qU_ hw106_0),(qU_ hw106_1),(qU_ hw106_2)⟩ (fun hHeld=>?_);refine with_tabW aA.tab12 aA.bits12 (fun HT_ HW_=>?_);generalize wr.drew=w33 at HO_6 BK101 BK102 HB hx105_0 hx105_1 hx105_2 hx106_0 hx106_1 hx106_2 hHeld⊢;refine pure_ (i:=0) (N:=some 38) #[J,O,O,O,O,O,O,O,O,O,O,O,O,O,O,O,O,O,O,O] rfl rfl (any_of HT_.out (by kernel_rfl)) (fun _ _ _ h=>h) (Or.inl ⟨by rfl,qy⟩) qz ?_;refine pure_ (i:=2) (N:=some 40) #[J,O,J,O,O,O,O,O,O,O,O,O,O,O,O,O,O,O,O,O] rfl rfl (any_of HT_.out (by kernel_rfl)) (fun _ _ _ h=>h) (Or.inl ⟨by rfl,qy⟩) qz ?_;refine pure_ (i:=6) (N:=some 44) #[J,O,J,O,O,O,J,O,O,O,O,O,O,O,O,O,O,O,O,O] rfl rfl (any_of HT_.out (by kernel_rfl)) (fun _ _ _ h=>h) (Or.inl ⟨by rfl,qy⟩) qz ?_
              refine take_ (i:=1) (N:=some 39) (v:=?_) (a':=?_) #[J,J,J,O,O,O,J,O,O,O,O,O,O,O,O,O,O,O,O,O] rfl rfl (take_ofW HT_.out HW_.out (by kernel_rfl)) (fun _ _ _ h=>h) (Or.inl ⟨by rfl,?_⟩) hHeld ?_ ?_;rotate_left
              ·rintro w' ⟨s0,s1,s2,s3,s4,s5,s6,s7,s8,s9⟩
               go_simp;with_reducible rfl
              rotate_left
              ·simp only[Act.put,zH,zI,zJ,i64_w,i32_w]
               rfl
              refine pure_ (i:=3) (N:=some 41) #[J,J,J,J,O,O,J,O,O,O,O,O,O,O,O,O,O,O,O,O] rfl rfl (any_of HT_.out (by kernel_rfl)) (fun _ _ _ h=>h) (Or.inl ⟨by rfl,qy⟩) qz ?_;refine pure_ (i:=4) (N:=some 42) #[J,J,J,J,J,O,J,O,O,O,O,O,O,O,O,O,O,O,O,O] rfl rfl (any_of HT_.out (by kernel_rfl)) (fun _ _ _ h=>h) (Or.inl ⟨by rfl,qy⟩) qz ?_;refine take_ (i:=5) (N:=some 43) (v:=?_) (a':=?_) #[J,J,J,J,J,J,J,O,O,O,O,O,O,O,O,O,O,O,O,O] rfl rfl (take_ofW HT_.out HW_.out (by kernel_rfl)) (fun _ _ _ h=>h) (Or.inl ⟨by rfl,?_⟩) hHeld ?_ ?_;rotate_left
              ·rintro w' ⟨s0,s1,s2,s3,s4,s5,s6,s7,s8,s9⟩
               go_simp;with_reducible rfl
              rotate_left
              ·simp only[Act.put,zH,zI,zJ,i64_w,i32_w]
               rfl
              refine pure_ (i:=7) (N:=some 45) #[J,J,J,J,J,J,J,J,O,O,O,O,O,O,O,O,O,O,O,O] rfl rfl (any_of HT_.out (by kernel_rfl)) (fun _ _ _ h=>h) (Or.inl ⟨by rfl,qy⟩) qz ?_;refine pure_ (i:=8) (N:=some 46) #[J,J,J,J,J,J,J,J,J,O,O,O,O,O,O,O,O,O,O,O] rfl rfl (any_of HT_.out (by kernel_rfl)) (fun _ _ _ h=>h) (Or.inl ⟨by rfl,qy⟩) qz ?_;refine pure_ (i:=10) (N:=some 48) #[J,J,J,J,J,J,J,J,J,O,J,O,O,O,O,O,O,O,O,O] rfl rfl (any_of HT_.out (by kernel_rfl)) (fun _ _ _ h=>h) (Or.inl ⟨by rfl,qy⟩) qz ?_;refine pure_ (i:=11) (N:=some 49) #[J,J,J,J,J,J,J,J,J,O,J,J,O,O,O,O,O,O,O,O] rfl rfl (any_of HT_.out (by kernel_rfl)) (fun _ _ _ h=>h) (Or.inl ⟨by rfl,qy⟩) qz ?_;refine pure_ (i:=13) (N:=some 51) #[J,J,J,J,J,J,J,J,J,O,J,J,O,J,O,O,O,O,O,O] rfl rfl (any_of HT_.out (by kernel_rfl)) (fun _ _ _ h=>h) (Or.inl ⟨by rfl,qy⟩) qz ?_;refine take_ (i:=9) (N:=some 47) (v:=?_) (a':=?_) #[J,J,J,J,J,J,J,J,J,J,J,J,O,J,O,O,O,O,O,O] rfl rfl (take_ofW HT_.out HW_.out (by kernel_rfl)) (fun _ _ _ h=>h) (Or.inl ⟨by rfl,?_⟩) hHeld ?_ ?_;rotate_left
              ·rintro w' ⟨s0,s1,s2,s3,s4,s5,s6,s7,s8,s9⟩
               go_simp;with_reducible rfl
              rotate_left
              ·simp only[Act.put,zH,zI,zJ,i64_w,i32_w]
               rfl
              refine take_ (i:=12) (N:=some 50) (v:=?_) (a':=?_) #[J,J,J,J,J,J,J,J,J,J,J,J,J,J,O,O,O,O,O,O] rfl rfl (take_ofW HT_.out HW_.out (by kernel_rfl)) (fun _ _ _ h=>h) (Or.inl ⟨by rfl,?_⟩) hHeld ?_ ?_;rotate_left
              ·rintro w' ⟨s0,s1,s2,s3,s4,s5,s6,s7,s8,s9⟩
               go_simp;with_reducible rfl
              rotate_left
              ·simp only[Act.put,zH,zI,zJ,i64_w,i32_w]
               rfl
              refine pure_ (i:=14) (N:=some 52) #[J,J,J,J,J,J,J,J,J,J,J,J,J,J,J,O,O,O,O,O] rfl rfl (any_of HT_.out (by kernel_rfl)) (fun _ _ _ h=>h) (Or.inl ⟨by rfl,qy⟩) qz ?_;refine pure_ (i:=15) (N:=some 53) #[J,J,J,J,J,J,J,J,J,J,J,J,J,J,J,J,O,O,O,O] rfl rfl (any_of HT_.out (by kernel_rfl)) (fun _ _ _ h=>h) (Or.inl ⟨by rfl,qy⟩) qz ?_;refine take_ (i:=16) (N:=some 54) (v:=?_) (a':=?_) #[J,J,J,J,J,J,J,J,J,J,J,J,J,J,J,J,J,O,O,O] rfl rfl (take_ofW HT_.out HW_.out (by kernel_rfl)) (fun _ _ _ h=>h) (Or.inl ⟨by rfl,?_⟩) hHeld ?_ ?_;rotate_left
              ·rintro w' ⟨s0,s1,s2,s3,s4,s5,s6,s7,s8,s9⟩
               go_simp;with_reducible rfl
              rotate_left
              ·simp only[Act.put,zH,zI,zJ,i64_w,i32_w]
               rfl
              refine one_ (i:=17) (N:=some 55) #[J,J,J,J,J,J,J,J,J,J,J,J,J,J,J,J,J,J,O,O] rfl rfl (one_of HT_.out (by kernel_rfl)) (by decide) (fun K hK=>?_);refine goes_ Try.func103 (by kernel_rfl) rfl #[.agg #[.int .i64 a1_0,.slice A1_1 l1_1.length c1_1],.int .i64 x7_2,.int .i64 ((rd_T169 l0_1 x8_3).f1)] (by rfl) rfl rfl qG ?_;with_reducible refine(bB.calls k3 a1_0 _ _ l1_1 x7_2 ((rd_T169 l0_1 x8_3).f1) t107 _ ?side1 ?side2 A28.out).mono ?_
              (case side1=>exact qC (Kd.C_below HR1_1.out HB.out))
              (case side2=>exact HC1_1.out)
              rintro e w34 ⟨rfl,hb⟩;refine⟨_,rfl,?_⟩;replace HO_6:=zA (Kd.R_below (qR_ HO_6.out) hb);replace BK101:=zA (qX BK101.out hb);replace BK102:=zA (qX BK102.out hb);replace HB:=zA (zV qB hb);(try clear hb);refine hK.out _ _ ⟨(zF BK101.out 0).trans rfl,(zF BK101.out 1).trans rfl,(zF BK102.out 0).trans rfl,(zF BK102.out 1).trans rfl,(qU_ hw105_0),(qU_ hw105_1),(qU_ hw105_2),(qU_ hw106_0),(qU_ hw106_1),(qU_ hw106_2)⟩ (fun hHeld=>?_);clear hK K;refine norm_ (a':=?_) ?_ ?_;rotate_left
              ·show Act.put _ (some 55) _=_
               simp only[Act.put,zH,zI,zJ,i64_w,i32_w];rfl
              refine pure_ (i:=18) (N:=some 56) #[J,J,J,J,J,J,J,J,J,J,J,J,J,J,J,J,J,J,J,O] rfl rfl (any_of HT_.out (by kernel_rfl)) (fun _ _ _ h=>h) (Or.inl ⟨by rfl,qy⟩) qz ?_;refine pure_ (i:=19) (N:=some 57) #[J,J,J,J,J,J,J,J,J,J,J,J,J,J,J,J,J,J,J,J] rfl rfl (any_of HT_.out (by kernel_rfl)) (fun _ _ _ h=>h) (Or.inl ⟨by rfl,qy⟩) qz ?_;refine done_ (done_of HT_.out (by kernel_rfl)) ?_;obtain⟨_,_,_,_⟩:=qc2f BK101.out;have p108:0≤(x8_3:Int):=qO_;have q108:x8_3 < (l0_1.length:Int):=qO_;obtain⟨ad108,e108,hx108_0,hx108_1,hx108_2⟩:=at_T169 HR0_1.out x8_3 p108 q108;obtain rfl:ad105=ad108:=(by injection e108)
              replace hx108_0:=qU_ hx108_0;replace hx108_1:=qU_ hx108_1;replace hx108_2:=qU_ hx108_2;replace p108:=eq_true p108;replace q108:=eq_true q108;try go_wp2_with (first|((with_reducible refine gate_builtin (b:= .append) (xs:= #[.tmp 58,.tmp 67]) rfl ?_);at_builtin;refine Kd.R_append k173 (w0:=w) w.heap.size rfl (.tmp 58) (.tmp 67) 88 173 (.agg #[(.int .i64 0),(.int .i64 0),(.int .i64 0),(.string ⟨#[]⟩)]) 40 rfl Try.underlying88 info173 rfl (by decide) (by omega) u6 x6_3 (⟨x7_2,3,(rd_T169 l0_1 x8_3).f1,(⟨#[]⟩:ByteArray)⟩:S173) [.int .i64 x7_2,.int .i64 3,.int .i64 ((rd_T169 l0_1 x8_3).f1),.string (⟨#[]⟩:ByteArray)] (fun _=>True) (fun _=>False) rfl rfl ?aP (fun _ hk=>hk.elim) ?aF ?aO ?aB ?aS ?aL ?_;(case aP=>exact k173_mkM _ _ _ (⟨x7_2,3,(rd_T169 l0_1 x8_3).f1,(⟨#[]⟩:ByteArray)⟩:S173));(case aB=>exact qB);(case aF=>exact(fun _ _=>trivial));(case aO=>exact(qR_ HO_6.out));(case aS=>exact(zW qB));(case aL=>have:=LMc30.out;omega);intro v110 w36 ho hb hg hat;rw[←Ny109.out] at ho;replace BK101:=zA (blk_grown (g:=gb101) (o:= .cells #[.int .i64 a0_0,.slice (some ad105) l0_1.length c0_1] 82 (0,0)) (qW BK101.out) hg (Kd.R_ne HO_6.out BK101.out (by decide)));replace BK102:=zA (blk_grown (g:=gb102) (o:= .cells #[.int .i64 a1_0,.slice A1_1 l1_1.length c1_1] 82 (0,0)) (qW BK102.out) hg (Kd.R_ne HO_6.out BK102.out (by decide)));replace HB:=zA (hb);have HO111:=zA (ho);clear HO_6 ho hb hg hat))
              go_roundg k3
              case measure=>have:=HJ2.out;have:=HK2.out;have:=HK3.out;omega
              case rel=>exact⟨(y109),(wrap64 (x8_3+1)),qF_,H',⟨by have:=HJ2.out;have:=HK2.out;have:=HK3.out;omega⟩,⟨qR_ HO111.out⟩,⟨by exact BK101.out⟩,⟨by exact BK102.out⟩,⟨qB⟩⟩
             rw[if_neg c30] at H;exact absurd H (by simp)
            rw[if_neg c29] at H;have c29b0:=zGq c29;clear c29;have H':=zA H;clear H;have hnb37:=NB101_102.out;have hnc37:=NB102_101.out;obtain⟨_,_,_,_⟩:=qc2f BK101.out;try go_wp2
            replace HO_6:=zA (Kd.R_drew HO_6.out);replace BK101:=zA (zAq BK101.out);replace BK102:=zA (zAq BK102.out);replace HB:=zA (zC HB.out);have p105:0≤(x8_3:Int):=qO_;have q105:x8_3 < (l0_1.length:Int):=qO_;obtain⟨ad105,e105,hx105_0,hx105_1,hx105_2⟩:=at_T169 HR0_1.out x8_3 p105 q105;have hw105_2:=hx105_2;have hw105_1:=hx105_1;have hw105_0:=hx105_0;cases e105
            replace hx105_0:=qU_ hx105_0;replace hx105_1:=qU_ hx105_1;replace hx105_2:=qU_ hx105_2;replace p105:=eq_true p105;replace q105:=eq_true q105;have p106:0≤(x8_3:Int):=qO_;have q106:x8_3 < (l0_1.length:Int):=qO_;obtain⟨ad106,e106,hx106_0,hx106_1,hx106_2⟩:=at_T169 HR0_1.out x8_3 p106 q106;have hw106_2:=hx106_2;have hw106_1:=hx106_1;have hw106_0:=hx106_0;obtain rfl:ad105=ad106:=(by injection e106)
            replace hx106_0:=qU_ hx106_0;replace hx106_1:=qU_ hx106_1;replace hx106_2:=qU_ hx106_2;replace p106:=eq_true p106;replace q106:=eq_true q106;refine start_ (n:=20) (S:=fun w'=>w'.cell? ⟨gb101,0,none⟩=some (.int .i64 a0_0)∧w'.cell? ⟨gb101,1,none⟩=some (.slice (some ad105) l0_1.length c0_1)∧w'.cell? ⟨gb102,0,none⟩=some (.int .i64 a1_0)∧w'.cell? ⟨gb102,1,none⟩=some (.slice A1_1 l1_1.length c1_1)∧w'.cell? (ad105.add ((x8_3).toNat * 3))=some (.int .i64 ((rd_T169 l0_1 x8_3).f0))∧w'.cell? ⟨(ad105.add ((x8_3).toNat * 3)).block,(ad105.add ((x8_3).toNat * 3)).off+1,none⟩=some (.int .i64 ((rd_T169 l0_1 x8_3).f1))∧w'.cell? ⟨(ad105.add ((x8_3).toNat * 3)).block,(ad105.add ((x8_3).toNat * 3)).off+2,none⟩=some (.string ((rd_T169 l0_1 x8_3).f2))∧w'.cell? (ad105.add ((x8_3).toNat * 3))=some (.int .i64 ((rd_T169 l0_1 x8_3).f0))∧w'.cell? ⟨(ad105.add ((x8_3).toNat * 3)).block,(ad105.add ((x8_3).toNat * 3)).off+1,none⟩=some (.int .i64 ((rd_T169 l0_1 x8_3).f1))∧w'.cell? ⟨(ad105.add ((x8_3).toNat * 3)).block,(ad105.add ((x8_3).toNat * 3)).off+2,none⟩=some (.string ((rd_T169 l0_1 x8_3).f2))) (ds:=[]) #[O,O,O,O,O,O,O,O,O,O,O,O,O,O,O,O,O,O,O,O] (by kernel_rfl) rfl rfl ⟨(zF BK101.out 0).trans rfl,(zF BK101.out 1).trans rfl,(zF BK102.out 0).trans rfl,(zF BK102.out 1).trans rfl,(qU_ hw105_0),(qU_ hw105_1),(qU_ hw105_2),(qU_ hw106_0),(qU_ hw106_1),(qU_ hw106_2)⟩ (fun hHeld=>?_);refine with_tabW aA.tab12 aA.bits12 (fun HT_ HW_=>?_);generalize wr.drew=w39 at HO_6 BK101 BK102 HB hx105_0 hx105_1 hx105_2 hx106_0 hx106_1 hx106_2 hHeld⊢;refine pure_ (i:=0) (N:=some 38) #[J,O,O,O,O,O,O,O,O,O,O,O,O,O,O,O,O,O,O,O] rfl rfl (any_of HT_.out (by kernel_rfl)) (fun _ _ _ h=>h) (Or.inl ⟨by rfl,qy⟩) qz ?_;refine pure_ (i:=2) (N:=some 40) #[J,O,J,O,O,O,O,O,O,O,O,O,O,O,O,O,O,O,O,O] rfl rfl (any_of HT_.out (by kernel_rfl)) (fun _ _ _ h=>h) (Or.inl ⟨by rfl,qy⟩) qz ?_;refine pure_ (i:=6) (N:=some 44) #[J,O,J,O,O,O,J,O,O,O,O,O,O,O,O,O,O,O,O,O] rfl rfl (any_of HT_.out (by kernel_rfl)) (fun _ _ _ h=>h) (Or.inl ⟨by rfl,qy⟩) qz ?_
            refine take_ (i:=1) (N:=some 39) (v:=?_) (a':=?_) #[J,J,J,O,O,O,J,O,O,O,O,O,O,O,O,O,O,O,O,O] rfl rfl (take_ofW HT_.out HW_.out (by kernel_rfl)) (fun _ _ _ h=>h) (Or.inl ⟨by rfl,?_⟩) hHeld ?_ ?_;rotate_left
            ·rintro w' ⟨s0,s1,s2,s3,s4,s5,s6,s7,s8,s9⟩
             go_simp;with_reducible rfl
            rotate_left
            ·simp only[Act.put,zH,zI,zJ,i64_w,i32_w]
             rfl
            refine pure_ (i:=3) (N:=some 41) #[J,J,J,J,O,O,J,O,O,O,O,O,O,O,O,O,O,O,O,O] rfl rfl (any_of HT_.out (by kernel_rfl)) (fun _ _ _ h=>h) (Or.inl ⟨by rfl,qy⟩) qz ?_;refine pure_ (i:=4) (N:=some 42) #[J,J,J,J,J,O,J,O,O,O,O,O,O,O,O,O,O,O,O,O] rfl rfl (any_of HT_.out (by kernel_rfl)) (fun _ _ _ h=>h) (Or.inl ⟨by rfl,qy⟩) qz ?_;refine take_ (i:=5) (N:=some 43) (v:=?_) (a':=?_) #[J,J,J,J,J,J,J,O,O,O,O,O,O,O,O,O,O,O,O,O] rfl rfl (take_ofW HT_.out HW_.out (by kernel_rfl)) (fun _ _ _ h=>h) (Or.inl ⟨by rfl,?_⟩) hHeld ?_ ?_;rotate_left
            ·rintro w' ⟨s0,s1,s2,s3,s4,s5,s6,s7,s8,s9⟩
             go_simp;with_reducible rfl
            rotate_left
            ·simp only[Act.put,zH,zI,zJ,i64_w,i32_w]
             rfl
            refine pure_ (i:=7) (N:=some 45) #[J,J,J,J,J,J,J,J,O,O,O,O,O,O,O,O,O,O,O,O] rfl rfl (any_of HT_.out (by kernel_rfl)) (fun _ _ _ h=>h) (Or.inl ⟨by rfl,qy⟩) qz ?_;refine pure_ (i:=8) (N:=some 46) #[J,J,J,J,J,J,J,J,J,O,O,O,O,O,O,O,O,O,O,O] rfl rfl (any_of HT_.out (by kernel_rfl)) (fun _ _ _ h=>h) (Or.inl ⟨by rfl,qy⟩) qz ?_;refine pure_ (i:=10) (N:=some 48) #[J,J,J,J,J,J,J,J,J,O,J,O,O,O,O,O,O,O,O,O] rfl rfl (any_of HT_.out (by kernel_rfl)) (fun _ _ _ h=>h) (Or.inl ⟨by rfl,qy⟩) qz ?_;refine pure_ (i:=11) (N:=some 49) #[J,J,J,J,J,J,J,J,J,O,J,J,O,O,O,O,O,O,O,O] rfl rfl (any_of HT_.out (by kernel_rfl)) (fun _ _ _ h=>h) (Or.inl ⟨by rfl,qy⟩) qz ?_;refine pure_ (i:=13) (N:=some 51) #[J,J,J,J,J,J,J,J,J,O,J,J,O,J,O,O,O,O,O,O] rfl rfl (any_of HT_.out (by kernel_rfl)) (fun _ _ _ h=>h) (Or.inl ⟨by rfl,qy⟩) qz ?_;refine take_ (i:=9) (N:=some 47) (v:=?_) (a':=?_) #[J,J,J,J,J,J,J,J,J,J,J,J,O,J,O,O,O,O,O,O] rfl rfl (take_ofW HT_.out HW_.out (by kernel_rfl)) (fun _ _ _ h=>h) (Or.inl ⟨by rfl,?_⟩) hHeld ?_ ?_;rotate_left
            ·rintro w' ⟨s0,s1,s2,s3,s4,s5,s6,s7,s8,s9⟩
             go_simp;with_reducible rfl
            rotate_left
            ·simp only[Act.put,zH,zI,zJ,i64_w,i32_w]
             rfl
            refine take_ (i:=12) (N:=some 50) (v:=?_) (a':=?_) #[J,J,J,J,J,J,J,J,J,J,J,J,J,J,O,O,O,O,O,O] rfl rfl (take_ofW HT_.out HW_.out (by kernel_rfl)) (fun _ _ _ h=>h) (Or.inl ⟨by rfl,?_⟩) hHeld ?_ ?_;rotate_left
            ·rintro w' ⟨s0,s1,s2,s3,s4,s5,s6,s7,s8,s9⟩
             go_simp;with_reducible rfl
            rotate_left
            ·simp only[Act.put,zH,zI,zJ,i64_w,i32_w]
             rfl
            refine pure_ (i:=14) (N:=some 52) #[J,J,J,J,J,J,J,J,J,J,J,J,J,J,J,O,O,O,O,O] rfl rfl (any_of HT_.out (by kernel_rfl)) (fun _ _ _ h=>h) (Or.inl ⟨by rfl,qy⟩) qz ?_;refine pure_ (i:=15) (N:=some 53) #[J,J,J,J,J,J,J,J,J,J,J,J,J,J,J,J,O,O,O,O] rfl rfl (any_of HT_.out (by kernel_rfl)) (fun _ _ _ h=>h) (Or.inl ⟨by rfl,qy⟩) qz ?_;refine take_ (i:=16) (N:=some 54) (v:=?_) (a':=?_) #[J,J,J,J,J,J,J,J,J,J,J,J,J,J,J,J,J,O,O,O] rfl rfl (take_ofW HT_.out HW_.out (by kernel_rfl)) (fun _ _ _ h=>h) (Or.inl ⟨by rfl,?_⟩) hHeld ?_ ?_;rotate_left
            ·rintro w' ⟨s0,s1,s2,s3,s4,s5,s6,s7,s8,s9⟩
             go_simp;with_reducible rfl
            rotate_left
            ·simp only[Act.put,zH,zI,zJ,i64_w,i32_w]
             rfl
            refine one_ (i:=17) (N:=some 55) #[J,J,J,J,J,J,J,J,J,J,J,J,J,J,J,J,J,J,O,O] rfl rfl (one_of HT_.out (by kernel_rfl)) (by decide) (fun K hK=>?_);refine goes_ Try.func103 (by kernel_rfl) rfl #[.agg #[.int .i64 a1_0,.slice A1_1 l1_1.length c1_1],.int .i64 x7_2,.int .i64 ((rd_T169 l0_1 x8_3).f1)] (by rfl) rfl rfl qG ?_;with_reducible refine(bB.calls k3 a1_0 _ _ l1_1 x7_2 ((rd_T169 l0_1 x8_3).f1) t107 _ ?side1 ?side2 A28.out).mono ?_
            (case side1=>exact qC (Kd.C_below HR1_1.out HB.out))
            (case side2=>exact HC1_1.out)
            rintro e w40 ⟨rfl,hb⟩;refine⟨_,rfl,?_⟩;replace HO_6:=zA (Kd.R_below (qR_ HO_6.out) hb);replace BK101:=zA (qX BK101.out hb);replace BK102:=zA (qX BK102.out hb);replace HB:=zA (zV qB hb);(try clear hb);refine hK.out _ _ ⟨(zF BK101.out 0).trans rfl,(zF BK101.out 1).trans rfl,(zF BK102.out 0).trans rfl,(zF BK102.out 1).trans rfl,(qU_ hw105_0),(qU_ hw105_1),(qU_ hw105_2),(qU_ hw106_0),(qU_ hw106_1),(qU_ hw106_2)⟩ (fun hHeld=>?_);clear hK K;refine norm_ (a':=?_) ?_ ?_;rotate_left
            ·show Act.put _ (some 55) _=_
             simp only[Act.put,zH,zI,zJ,i64_w,i32_w];rfl
            refine pure_ (i:=18) (N:=some 56) #[J,J,J,J,J,J,J,J,J,J,J,J,J,J,J,J,J,J,J,O] rfl rfl (any_of HT_.out (by kernel_rfl)) (fun _ _ _ h=>h) (Or.inl ⟨by rfl,qy⟩) qz ?_;refine pure_ (i:=19) (N:=some 57) #[J,J,J,J,J,J,J,J,J,J,J,J,J,J,J,J,J,J,J,J] rfl rfl (any_of HT_.out (by kernel_rfl)) (fun _ _ _ h=>h) (Or.inl ⟨by rfl,qy⟩) qz ?_;refine done_ (done_of HT_.out (by kernel_rfl)) ?_;try go_wp2
            go_roundg k3
            case measure=>have:=HJ2.out;have:=HK2.out;have:=HK3.out;omega
            case rel=>exact⟨(x6_3),(wrap64 (x8_3+1)),qF_,H',⟨by have:=HJ2.out;have:=HK2.out;have:=HK3.out;omega⟩,⟨qR_ HO_6.out⟩,⟨by exact BK101.out⟩,⟨by exact BK102.out⟩,⟨qB⟩⟩
           rw[if_neg c27] at H;have c27b0:(((rd_T169 l0_1 x8_3).f0)==x7_2)=false:=beq_eq_false_iff_ne.mpr c27;have c27b1:(((rd_T169 l0_1 x8_3).f0) != x7_2)=true:=bne_iff_ne.mpr c27;have H':=zA H;clear H;have hnb41:=NB101_102.out;have hnc41:=NB102_101.out;obtain⟨_,_,_,_⟩:=qc2f BK101.out;try go_wp2
           replace HO_6:=zA (Kd.R_drew HO_6.out);replace BK101:=zA (zAq BK101.out);replace BK102:=zA (zAq BK102.out);replace HB:=zA (zC HB.out);have p105:0≤(x8_3:Int):=qO_;have q105:x8_3 < (l0_1.length:Int):=qO_;obtain⟨ad105,e105,hx105_0,hx105_1,hx105_2⟩:=at_T169 HR0_1.out x8_3 p105 q105;have hw105_2:=hx105_2;have hw105_1:=hx105_1;have hw105_0:=hx105_0;cases e105
           replace hx105_0:=qU_ hx105_0;replace hx105_1:=qU_ hx105_1;replace hx105_2:=qU_ hx105_2;replace p105:=eq_true p105;replace q105:=eq_true q105;refine start_ (n:=20) (S:=fun w'=>w'.cell? ⟨gb101,0,none⟩=some (.int .i64 a0_0)∧w'.cell? ⟨gb101,1,none⟩=some (.slice (some ad105) l0_1.length c0_1)∧w'.cell? (ad105.add ((x8_3).toNat * 3))=some (.int .i64 ((rd_T169 l0_1 x8_3).f0))∧w'.cell? ⟨(ad105.add ((x8_3).toNat * 3)).block,(ad105.add ((x8_3).toNat * 3)).off+1,none⟩=some (.int .i64 ((rd_T169 l0_1 x8_3).f1))∧w'.cell? ⟨(ad105.add ((x8_3).toNat * 3)).block,(ad105.add ((x8_3).toNat * 3)).off+2,none⟩=some (.string ((rd_T169 l0_1 x8_3).f2))) (ds:=[]) #[O,O,O,O,O,O,O,O,O,O,O,O,O,O,O,O,O,O,O,O] (by kernel_rfl) rfl rfl ⟨(zF BK101.out 0).trans rfl,(zF BK101.out 1).trans rfl,(qU_ hw105_0),(qU_ hw105_1),(qU_ hw105_2)⟩ (fun hHeld=>?_);refine with_tabW aA.tab12 aA.bits12 (fun HT_ HW_=>?_);generalize wr.drew=w43 at HO_6 BK101 BK102 HB hx105_0 hx105_1 hx105_2 hHeld⊢;refine pure_ (i:=0) (N:=some 38) #[J,O,O,O,O,O,O,O,O,O,O,O,O,O,O,O,O,O,O,O] rfl rfl (any_of HT_.out (by kernel_rfl)) (fun _ _ _ h=>h) (Or.inl ⟨by rfl,qy⟩) qz ?_;refine pure_ (i:=2) (N:=some 40) #[J,O,J,O,O,O,O,O,O,O,O,O,O,O,O,O,O,O,O,O] rfl rfl (any_of HT_.out (by kernel_rfl)) (fun _ _ _ h=>h) (Or.inl ⟨by rfl,qy⟩) qz ?_;refine pure_ (i:=6) (N:=some 44) #[J,O,J,O,O,O,J,O,O,O,O,O,O,O,O,O,O,O,O,O] rfl rfl (any_of HT_.out (by kernel_rfl)) (fun _ _ _ h=>h) (Or.inl ⟨by rfl,qy⟩) qz ?_;refine take_ (i:=1) (N:=some 39) (v:=?_) (a':=?_) #[J,J,J,O,O,O,J,O,O,O,O,O,O,O,O,O,O,O,O,O] rfl rfl (take_ofW HT_.out HW_.out (by kernel_rfl)) (fun _ _ _ h=>h) (Or.inl ⟨by rfl,?_⟩) hHeld ?_ ?_;rotate_left
           ·rintro w' ⟨s0,s1,s2,s3,s4⟩
            go_simp;with_reducible rfl
           rotate_left
           ·simp only[Act.put,zH,zI,zJ,i64_w,i32_w]
            rfl
           refine pure_ (i:=3) (N:=some 41) #[J,J,J,J,O,O,J,O,O,O,O,O,O,O,O,O,O,O,O,O] rfl rfl (any_of HT_.out (by kernel_rfl)) (fun _ _ _ h=>h) (Or.inl ⟨by rfl,qy⟩) qz ?_;refine pure_ (i:=4) (N:=some 42) #[J,J,J,J,J,O,J,O,O,O,O,O,O,O,O,O,O,O,O,O] rfl rfl (any_of HT_.out (by kernel_rfl)) (fun _ _ _ h=>h) (Or.inl ⟨by rfl,qy⟩) qz ?_;refine take_ (i:=5) (N:=some 43) (v:=?_) (a':=?_) #[J,J,J,J,J,J,J,O,O,O,O,O,O,O,O,O,O,O,O,O] rfl rfl (take_ofW HT_.out HW_.out (by kernel_rfl)) (fun _ _ _ h=>h) (Or.inl ⟨by rfl,?_⟩) hHeld ?_ ?_;rotate_left
           ·rintro w' ⟨s0,s1,s2,s3,s4⟩
            go_simp;with_reducible rfl
           rotate_left
           ·simp only[Act.put,zH,zI,zJ,i64_w,i32_w]
            rfl
           refine pure_ (i:=7) (N:=some 45) #[J,J,J,J,J,J,J,J,O,O,O,O,O,O,O,O,O,O,O,O] rfl rfl (any_of HT_.out (by kernel_rfl)) (fun _ _ _ h=>h) (Or.inl ⟨by rfl,qy⟩) qz ?_;refine pure_ (i:=8) (N:=some 46) #[J,J,J,J,J,J,J,J,J,O,O,O,O,O,O,O,O,O,O,O] rfl rfl (any_of HT_.out (by kernel_rfl)) (fun _ _ _ h=>h) (Or.inl ⟨by rfl,qy⟩) qz ?_;refine pure_ (i:=9) (N:=some 47) (v:=undef) (a':=?_) #[J,J,J,J,J,J,J,J,J,J,O,O,O,O,O,O,O,O,O,O] rfl rfl (any_of HT_.out (by kernel_rfl)) (fun _ _ _ h=>h) (Or.inr ⟨by rfl,rfl⟩) ?_ ?_;rotate_left
           ·simp only[Act.put,zH,zI,zJ,i64_w,i32_w]
            rfl
           refine pure_ (i:=10) (N:=some 48) (v:=undef) (a':=?_) #[J,J,J,J,J,J,J,J,J,J,J,O,O,O,O,O,O,O,O,O] rfl rfl (any_of HT_.out (by kernel_rfl)) (fun _ _ _ h=>h) (Or.inr ⟨by rfl,rfl⟩) ?_ ?_;rotate_left
           ·simp only[Act.put,zH,zI,zJ,i64_w,i32_w]
            rfl
           refine pure_ (i:=11) (N:=some 49) (v:=undef) (a':=?_) #[J,J,J,J,J,J,J,J,J,J,J,J,O,O,O,O,O,O,O,O] rfl rfl (any_of HT_.out (by kernel_rfl)) (fun _ _ _ h=>h) (Or.inr ⟨by rfl,rfl⟩) ?_ ?_;rotate_left
           ·simp only[Act.put,zH,zI,zJ,i64_w,i32_w]
            rfl
           refine pure_ (i:=12) (N:=some 50) (v:=undef) (a':=?_) #[J,J,J,J,J,J,J,J,J,J,J,J,J,O,O,O,O,O,O,O] rfl rfl (any_of HT_.out (by kernel_rfl)) (fun _ _ _ h=>h) (Or.inr ⟨by rfl,rfl⟩) ?_ ?_;rotate_left
           ·simp only[Act.put,zH,zI,zJ,i64_w,i32_w]
            rfl
           refine pure_ (i:=13) (N:=some 51) (v:=undef) (a':=?_) #[J,J,J,J,J,J,J,J,J,J,J,J,J,J,O,O,O,O,O,O] rfl rfl (any_of HT_.out (by kernel_rfl)) (fun _ _ _ h=>h) (Or.inr ⟨by rfl,rfl⟩) ?_ ?_;rotate_left
           ·simp only[Act.put,zH,zI,zJ,i64_w,i32_w]
            rfl
           refine pure_ (i:=14) (N:=some 52) (v:=undef) (a':=?_) #[J,J,J,J,J,J,J,J,J,J,J,J,J,J,J,O,O,O,O,O] rfl rfl (any_of HT_.out (by kernel_rfl)) (fun _ _ _ h=>h) (Or.inr ⟨by rfl,rfl⟩) ?_ ?_;rotate_left
           ·simp only[Act.put,zH,zI,zJ,i64_w,i32_w]
            rfl
           refine pure_ (i:=15) (N:=some 53) (v:=undef) (a':=?_) #[J,J,J,J,J,J,J,J,J,J,J,J,J,J,J,J,O,O,O,O] rfl rfl (any_of HT_.out (by kernel_rfl)) (fun _ _ _ h=>h) (Or.inr ⟨by rfl,rfl⟩) ?_ ?_;rotate_left
           ·simp only[Act.put,zH,zI,zJ,i64_w,i32_w]
            rfl
           refine pure_ (i:=16) (N:=some 54) (v:=undef) (a':=?_) #[J,J,J,J,J,J,J,J,J,J,J,J,J,J,J,J,J,O,O,O] rfl rfl (any_of HT_.out (by kernel_rfl)) (fun _ _ _ h=>h) (Or.inr ⟨by rfl,rfl⟩) ?_ ?_;rotate_left
           ·simp only[Act.put,zH,zI,zJ,i64_w,i32_w]
            rfl
           refine pure_ (i:=17) (N:=some 55) (v:=undef) (a':=?_) #[J,J,J,J,J,J,J,J,J,J,J,J,J,J,J,J,J,J,O,O] rfl rfl (any_of HT_.out (by kernel_rfl)) (fun _ _ _ h=>h) (Or.inr ⟨by rfl,rfl⟩) ?_ ?_;rotate_left
           ·simp only[Act.put,zH,zI,zJ,i64_w,i32_w]
            rfl
           refine pure_ (i:=18) (N:=some 56) (v:=undef) (a':=?_) #[J,J,J,J,J,J,J,J,J,J,J,J,J,J,J,J,J,J,J,O] rfl rfl (any_of HT_.out (by kernel_rfl)) (fun _ _ _ h=>h) (Or.inr ⟨by rfl,rfl⟩) ?_ ?_;rotate_left
           ·simp only[Act.put,zH,zI,zJ,i64_w,i32_w]
            rfl
           refine pure_ (i:=19) (N:=some 57) #[J,J,J,J,J,J,J,J,J,J,J,J,J,J,J,J,J,J,J,J] rfl rfl (any_of HT_.out (by kernel_rfl)) (fun _ _ _ h=>h) (Or.inl ⟨by rfl,qy⟩) qz ?_;refine done_ (done_of HT_.out (by kernel_rfl)) ?_;try go_wp2
           go_roundg k3
           case measure=>have:=HJ2.out;have:=HK2.out;have:=HK3.out;omega
           case rel=>exact⟨(x6_3),(wrap64 (x8_3+1)),qF_,H',⟨by have:=HJ2.out;have:=HK2.out;have:=HK3.out;omega⟩,⟨qR_ HO_6.out⟩,⟨by exact BK101.out⟩,⟨by exact BK102.out⟩,⟨qB⟩⟩
          rw[if_neg c26] at H;exact absurd H (by simp)
         rw[if_neg c25] at H;have c25b0:=zGq c25;clear c25;have H':=zA H;clear H;have hnb44:=NB101_102.out;have hnc44:=NB102_101.out;obtain⟨_,_,_,_⟩:=qc2f BK101.out;go_wp2;go_loopg[6,9] k3 (fun kq v6 v9 w'=> ∃ (x6_4:List (S173)) (x9_4:Int),v9= .int .i64 x9_4∧Aside0 (aA.l2 kq x6_4 x7_2 x9_4 a0_0 l0_1 a1_0 l1_1=some (r1,r2))∧Aside0 (kq≤k3)∧Aside0 (Kd.R k173 173 w' w.heap.size (fun _=>True) v6 x6_4)∧Aside0 (w'.heap[gb101]? =some (.cells #[.int .i64 a0_0,(.slice A0_1 l0_1.length c0_1)] 82 (0,0)))∧Aside0 (w'.heap[gb102]? =some (.cells #[.int .i64 a1_0,(.slice A1_1 l1_1.length c1_1)] 82 (0,0)))∧Aside0 (Below w.heap.size w w'))
         case atStart=>exact⟨(x6_3),(0),qF_,H',⟨Nat.le_refl _⟩,⟨qR_ HO_6.out⟩,⟨by exact BK101.out⟩,⟨by exact BK102.out⟩,⟨qB⟩⟩
         case round=>
          clear H';try clear c1
          try clear p1
          try clear q1
          try clear hx1
          try clear c2
          try clear p2
          try clear c3
          try clear c4
          try clear p6
          try clear c10
          try clear p10
          try clear q10
          try clear hx10
          try clear c25
          try clear c25b0
          try clear c26
          try clear c27
          try clear c27b0
          try clear c27b1
          try clear c29
          try clear c29b0
          try clear c30
          try clear c37
          try clear c41
          try clear c44
          try clear hx105_0
          try clear hx105_1
          try clear hx105_2
          try clear hx106_0
          try clear hx106_1
          try clear hx106_2
          try clear hx108_0
          try clear hx108_1
          try clear hx108_2
          try clear p105
          try clear p106
          try clear p108
          try clear q105
          try clear q106
          try clear q108
          obtain⟨x6_4,x9_4,rfl,HA,HK4,HO_6,BK101,BK102,HB⟩:=hrel;cases gk with
          |zero=>exact absurd HA.out (by simp[aA.l2])
          |succ k4=>
           have H:=HA.out;clear HA;simp only[aA.l2] at H;by_cases c46:x9_4 < (l1_1.length:Int)
           ·rw[if_pos c46] at H
            have c46b0:=zFq c46;clear c46;by_cases c47:0≤x9_4
            ·rw[if_pos c47] at H
             have c47b0:=zFq c47;clear c47;by_cases c48:((rd_T169 l1_1 x9_4).f0)=x7_2
             ·rw[if_pos c48] at H
              have c48b0:(((rd_T169 l1_1 x9_4).f0)==x7_2)=true:=beq_iff_eq.mpr c48;have c48b1:(((rd_T169 l1_1 x9_4).f0) != x7_2)=false:=bne_eq_false_iff_eq.mpr c48;clear c48;obtain⟨t114,A49,H⟩:=qD_ H;(try dsimp only at H);by_cases c50:t114 < 0
              ·rw[if_pos c50] at H
               have c50b0:=zFq c50;clear c50;by_cases c51:x6_4.length < 3518437208883
               ·rw[if_pos c51] at H
                have LMc51:=zA c51;clear c51;obtain⟨y115,hy115⟩: ∃ y_:List (S173),y_=(x6_4++ [(⟨x7_2,1,(rd_T169 l1_1 x9_4).f1,(rd_T169 l1_1 x9_4).f2⟩:S173)]):=⟨_,rfl⟩
                replace H:(aA.l2 k4 y115 x7_2 (wrap64 (x9_4+1)) a0_0 l0_1 a1_0 l1_1)=some (r1,r2):=by first|(rw[hy115];with_reducible exact H)|(have H2_:=(Option.bind_some _ _).symm.trans H;rw[hy115];with_reducible exact H2_)|(have H2_:=(Option.bind_some _ _).symm.trans H;with_reducible exact H2_)|with_reducible exact H|(rw[hy115];exact H)|exact H
                have Ny115:=zA hy115;clear hy115;have H':=zA H;clear H;have hnb52:=NB102_101.out;have hnc52:=NB101_102.out;obtain⟨_,_,_,_⟩:=qc2f BK102.out;have p112:0≤(x9_4:Int):=qO_;have q112:x9_4 < (l1_1.length:Int):=qO_;obtain⟨ad112,e112,hx112_0,hx112_1,hx112_2⟩:=at_T169 HR1_1.out x9_4 p112 q112;cases e112
                replace hx112_0:=qU_ hx112_0;replace hx112_1:=qU_ hx112_1;replace hx112_2:=qU_ hx112_2;replace p112:=eq_true p112;replace q112:=eq_true q112;go_wp2_with (first|((with_reducible refine gate_dst (N:=10) rfl ?_);refine box_event qr (N:=10) qr (cs:= #[.int .i64 0,.int .i64 0,.string (⟨#[]⟩:ByteArray)]) (t:=169) qg ?_;intro gb113 hg w54 hbox hb;replace HO_6:=zA (Kd.R_below (qR_ HO_6.out) hb);have BK113:=zA (hbox);have GW113:=zA ((qS:w.heap.size≤gb113));have GE113:=zA ((qS:w.heap.size≤gb113));replace HB:=zA (zV qB hb);have NB101_113:=zA ((by rw[hg];exact zLq (qL BK101.out):gb101≠gb113));have NB113_101:=zA ((by rw[hg];exact zMq (qL BK101.out):gb113≠gb101));replace BK101:=zA (qX BK101.out hb);have NB102_113:=zA ((by rw[hg];exact zLq (qL BK102.out):gb102≠gb113));have NB113_102:=zA ((by rw[hg];exact zMq (qL BK102.out):gb113≠gb102));replace BK102:=zA (qX BK102.out hb);clear hb hbox hg;have hnb55:=NB113_101.out;have hnc55:=NB101_113.out;have hnb56:=NB113_102.out;have hnc56:=NB102_113.out;obtain⟨_,_,_,_,_,_⟩:=qc3f BK113.out;obtain⟨_,_,_,_⟩:=qc2f BK101.out)|((with_reducible refine zJq (f:=103) rfl ?_);refine goesL_ (some 89) rfl rfl Try.func103 (by kernel_rfl) rfl #[.agg #[.int .i64 a0_0,.slice A0_1 l0_1.length c0_1],.int .i64 x7_2,.int .i64 ((rd_T169 l1_1 x9_4).f1)] rfl qG ?_;(with_reducible refine(bB.calls k4 a0_0 _ _ l0_1 x7_2 ((rd_T169 l1_1 x9_4).f1) t114 _ ?side1 ?side2 A49.out).mono ?_);(case side1=>exact Kd.C_below HR0_1.out qB);(case side2=>exact HC0_1.out);rintro e w59 ⟨rfl,hb⟩;refine⟨_,rfl,?_⟩;replace HO_6:=zA (Kd.R_below (by(with_reducible repeat(first|apply Kd.R_alloc|apply Kd.R_drewN|apply Kd.R_drew));exact(Kd.R_mono (Kd.R_far (p:=⟨gb113,2,none⟩) (Kd.R_far (p:=⟨gb113,1,none⟩) (Kd.R_far (p:=⟨gb113,0,none⟩) (Kd.R_types HO_6.out BK113.out (by decide)) (fun _ hk=>hk.2) (.int .i64 ((rd_T169 l1_1 x9_4).f0))) (fun _ hk=>hk.2) (.int .i64 ((rd_T169 l1_1 x9_4).f1))) (fun _ hk=>hk.2) (.string ((rd_T169 l1_1 x9_4).f2))) (fun _ h_=>h_.1))) hb);replace BK101:=zA (qX BK101.out hb);replace BK102:=zA (qX BK102.out hb);replace BK113:=zA (zX (g:=gb113) (o:= .cells #[.int .i64 ((rd_T169 l1_1 x9_4).f0),.int .i64 ((rd_T169 l1_1 x9_4).f1),.string ((rd_T169 l1_1 x9_4).f2)] 169 (0,0)) (qV BK113.out) hb);replace HB:=zA (zV qB hb);(try clear hb);obtain⟨_,_,_,_,_,_⟩:=qc3f BK113.out)|((with_reducible refine gate_builtin (b:= .append) (xs:= #[.tmp 92,.tmp 99]) rfl ?_);at_builtin;refine Kd.R_append k173 (w0:=w) w.heap.size rfl (.tmp 92) (.tmp 99) 88 173 (.agg #[(.int .i64 0),(.int .i64 0),(.int .i64 0),(.string ⟨#[]⟩)]) 40 rfl Try.underlying88 info173 rfl (by decide) (by omega) u6 x6_4 (⟨x7_2,1,(rd_T169 l1_1 x9_4).f1,(rd_T169 l1_1 x9_4).f2⟩:S173) [.int .i64 x7_2,.int .i64 1,.int .i64 ((rd_T169 l1_1 x9_4).f1),.string ((rd_T169 l1_1 x9_4).f2)] (fun _=>True) (fun _=>False) rfl rfl ?aP (fun _ hk=>hk.elim) ?aF ?aO ?aB ?aS ?aL ?_;(case aP=>exact k173_mkM _ _ _ (⟨x7_2,1,(rd_T169 l1_1 x9_4).f1,(rd_T169 l1_1 x9_4).f2⟩:S173));(case aB=>exact qB);(case aF=>exact(fun _ _=>trivial));(case aO=>exact(qR_ HO_6.out));(case aS=>exact(zW qB));(case aL=>have:=LMc51.out;omega);intro v116 w61 ho hb hg hat;rw[←Ny115.out] at ho;replace BK101:=zA (blk_grown (g:=gb101) (o:= .cells #[.int .i64 a0_0,.slice A0_1 l0_1.length c0_1] 82 (0,0)) (qW BK101.out) hg (Kd.R_ne HO_6.out BK101.out (by decide)));replace BK102:=zA (blk_grown (g:=gb102) (o:= .cells #[.int .i64 a1_0,.slice (some ad112) l1_1.length c1_1] 82 (0,0)) (qW BK102.out) hg (Kd.R_ne HO_6.out BK102.out (by decide)));replace BK113:=zA (blk_grown (g:=gb113) (o:= .cells #[.int .i64 ((rd_T169 l1_1 x9_4).f0),.int .i64 ((rd_T169 l1_1 x9_4).f1),.string ((rd_T169 l1_1 x9_4).f2)] 169 (0,0)) (qW BK113.out) hg (Kd.R_ne HO_6.out BK113.out (by decide)));replace HB:=zA (hb);have HO117:=zA (ho);clear HO_6 ho hb hg hat))
                go_roundg k4
                case measure=>have:=HJ2.out;have:=HK2.out;have:=HK3.out;have:=HK4.out;omega
                case rel=>exact⟨(y115),(wrap64 (x9_4+1)),qF_,H',⟨by have:=HJ2.out;have:=HK2.out;have:=HK3.out;have:=HK4.out;omega⟩,⟨qR_ HO117.out⟩,⟨by exact BK101.out⟩,⟨by exact BK102.out⟩,⟨qB⟩⟩
               rw[if_neg c51] at H;exact absurd H (by simp)
              rw[if_neg c50] at H;have c50b0:=zGq c50;clear c50;by_cases c62:0≤t114
              ·rw[if_pos c62] at H
               have c62b0:=zFq c62;clear c62;by_cases c63:t114 < (l0_1.length:Int)
               ·rw[if_pos c63] at H
                have c63b0:=zFq c63;clear c63;by_cases c64:((rd_T169 l0_1 t114).f2).toList=((rd_T169 l1_1 x9_4).f2).toList
                ·rw[if_pos c64] at H
                 have c64b0:(((rd_T169 l0_1 t114).f2).toList==((rd_T169 l1_1 x9_4).f2).toList)=true:=beq_iff_eq.mpr c64;have c64b1:(((rd_T169 l0_1 t114).f2).toList !=((rd_T169 l1_1 x9_4).f2).toList)=false:=bne_eq_false_iff_eq.mpr c64;clear c64;have H':=zA H;clear H;have hnb65:=NB102_101.out;have hnc65:=NB101_102.out;obtain⟨_,_,_,_⟩:=qc2f BK102.out;have p112:0≤(x9_4:Int):=qO_;have q112:x9_4 < (l1_1.length:Int):=qO_;obtain⟨ad112,e112,hx112_0,hx112_1,hx112_2⟩:=at_T169 HR1_1.out x9_4 p112 q112;cases e112
                 replace hx112_0:=qU_ hx112_0;replace hx112_1:=qU_ hx112_1;replace hx112_2:=qU_ hx112_2;replace p112:=eq_true p112;replace q112:=eq_true q112;try go_wp2_with (first|((with_reducible refine gate_dst (N:=10) rfl ?_);refine box_event qr (N:=10) qr (cs:= #[.int .i64 0,.int .i64 0,.string (⟨#[]⟩:ByteArray)]) (t:=169) qg ?_;intro gb113 hg w67 hbox hb;replace HO_6:=zA (Kd.R_below (qR_ HO_6.out) hb);have BK113:=zA (hbox);have GW113:=zA ((qS:w.heap.size≤gb113));have GE113:=zA ((qS:w.heap.size≤gb113));replace HB:=zA (zV qB hb);have NB101_113:=zA ((by rw[hg];exact zLq (qL BK101.out):gb101≠gb113));have NB113_101:=zA ((by rw[hg];exact zMq (qL BK101.out):gb113≠gb101));replace BK101:=zA (qX BK101.out hb);have NB102_113:=zA ((by rw[hg];exact zLq (qL BK102.out):gb102≠gb113));have NB113_102:=zA ((by rw[hg];exact zMq (qL BK102.out):gb113≠gb102));replace BK102:=zA (qX BK102.out hb);clear hb hbox hg;have hnb68:=NB113_101.out;have hnc68:=NB101_113.out;have hnb69:=NB113_102.out;have hnc69:=NB102_113.out;obtain⟨_,_,_,_,_,_⟩:=qc3f BK113.out;obtain⟨_,_,_,_⟩:=qc2f BK101.out)|((with_reducible refine zJq (f:=103) rfl ?_);refine goesL_ (some 89) rfl rfl Try.func103 (by kernel_rfl) rfl #[.agg #[.int .i64 a0_0,.slice A0_1 l0_1.length c0_1],.int .i64 x7_2,.int .i64 ((rd_T169 l1_1 x9_4).f1)] rfl qG ?_;(with_reducible refine(bB.calls k4 a0_0 _ _ l0_1 x7_2 ((rd_T169 l1_1 x9_4).f1) t114 _ ?side1 ?side2 A49.out).mono ?_);(case side1=>exact Kd.C_below HR0_1.out qB);(case side2=>exact HC0_1.out);rintro e w72 ⟨rfl,hb⟩;refine⟨_,rfl,?_⟩;replace HO_6:=zA (Kd.R_below (by(with_reducible repeat(first|apply Kd.R_alloc|apply Kd.R_drewN|apply Kd.R_drew));exact(Kd.R_mono (Kd.R_far (p:=⟨gb113,2,none⟩) (Kd.R_far (p:=⟨gb113,1,none⟩) (Kd.R_far (p:=⟨gb113,0,none⟩) (Kd.R_types HO_6.out BK113.out (by decide)) (fun _ hk=>hk.2) (.int .i64 ((rd_T169 l1_1 x9_4).f0))) (fun _ hk=>hk.2) (.int .i64 ((rd_T169 l1_1 x9_4).f1))) (fun _ hk=>hk.2) (.string ((rd_T169 l1_1 x9_4).f2))) (fun _ h_=>h_.1))) hb);replace BK101:=zA (qX BK101.out hb);replace BK102:=zA (qX BK102.out hb);replace BK113:=zA (zX (g:=gb113) (o:= .cells #[.int .i64 ((rd_T169 l1_1 x9_4).f0),.int .i64 ((rd_T169 l1_1 x9_4).f1),.string ((rd_T169 l1_1 x9_4).f2)] 169 (0,0)) (qV BK113.out) hb);replace HB:=zA (zV qB hb);(try clear hb)))
                 replace HO_6:=zA (Kd.R_drew HO_6.out);replace BK101:=zA (zAq BK101.out);replace BK102:=zA (zAq BK102.out);replace BK113:=zA (zAq BK113.out);replace HB:=zA (zC HB.out);have p118:0≤(t114:Int):=qO_;have q118:t114 < (l0_1.length:Int):=qO_;obtain⟨ad118,e118,hx118_0,hx118_1,hx118_2⟩:=at_T169 HR0_1.out t114 p118 q118;have hw118_2:=hx118_2;have hw118_1:=hx118_1;have hw118_0:=hx118_0;cases e118
                 replace hx118_0:=qU_ hx118_0;replace hx118_1:=qU_ hx118_1;replace hx118_2:=qU_ hx118_2;replace p118:=eq_true p118;replace q118:=eq_true q118;refine start_ (n:=9) (S:=fun w'=>w'.cell? ⟨gb101,0,none⟩=some (.int .i64 a0_0)∧w'.cell? ⟨gb101,1,none⟩=some (.slice (some ad118) l0_1.length c0_1)∧w'.cell? ⟨gb113,0,none⟩=some (.int .i64 ((rd_T169 l1_1 x9_4).f0))∧w'.cell? ⟨gb113,1,none⟩=some (.int .i64 ((rd_T169 l1_1 x9_4).f1))∧w'.cell? ⟨gb113,2,none⟩=some (.string ((rd_T169 l1_1 x9_4).f2))∧w'.cell? (ad118.add ((t114).toNat * 3))=some (.int .i64 ((rd_T169 l0_1 t114).f0))∧w'.cell? ⟨(ad118.add ((t114).toNat * 3)).block,(ad118.add ((t114).toNat * 3)).off+1,none⟩=some (.int .i64 ((rd_T169 l0_1 t114).f1))∧w'.cell? ⟨(ad118.add ((t114).toNat * 3)).block,(ad118.add ((t114).toNat * 3)).off+2,none⟩=some (.string ((rd_T169 l0_1 t114).f2))) (ds:=[]) #[O,O,O,O,O,O,O,O,O] (by kernel_rfl) rfl rfl ⟨(zF BK101.out 0).trans rfl,(zF BK101.out 1).trans rfl,(zF BK113.out 0).trans rfl,(zF BK113.out 1).trans rfl,(zF BK113.out 2).trans rfl,(qU_ hw118_0),(qU_ hw118_1),(qU_ hw118_2)⟩ (fun hHeld=>?_);refine with_tabW aA.tab22 aA.bits22 (fun HT_ HW_=>?_);generalize w72.drew=w73 at HO_6 BK101 BK102 BK113 HB hx118_0 hx118_1 hx118_2 hHeld⊢;refine pure_ (i:=0) (N:=some 101) #[J,O,O,O,O,O,O,O,O] rfl rfl (any_of HT_.out (by kernel_rfl)) (fun _ _ _ h=>h) (Or.inl ⟨by rfl,qy⟩) qz ?_;refine pure_ (i:=2) (N:=some 103) #[J,O,J,O,O,O,O,O,O] rfl rfl (any_of HT_.out (by kernel_rfl)) (fun _ _ _ h=>h) (Or.inl ⟨by rfl,qy⟩) qz ?_;refine pure_ (i:=6) (N:=some 107) #[J,O,J,O,O,O,J,O,O] rfl rfl (any_of HT_.out (by kernel_rfl)) (fun _ _ _ h=>h) (Or.inl ⟨by rfl,qy⟩) qz ?_;refine take_ (i:=1) (N:=some 102) (v:=?_) (a':=?_) #[J,J,J,O,O,O,J,O,O] rfl rfl (take_ofW HT_.out HW_.out (by kernel_rfl)) (fun _ _ _ h=>h) (Or.inl ⟨by rfl,?_⟩) hHeld ?_ ?_;rotate_left
                 ·rintro w' ⟨s0,s1,s2,s3,s4,s5,s6,s7⟩
                  go_simp;with_reducible rfl
                 rotate_left
                 ·simp only[Act.put,zH,zI,zJ,i64_w,i32_w]
                  rfl
                 refine pure_ (i:=3) (N:=some 104) #[J,J,J,J,O,O,J,O,O] rfl rfl (any_of HT_.out (by kernel_rfl)) (fun _ _ _ h=>h) (Or.inl ⟨by rfl,qy⟩) qz ?_;refine pure_ (i:=4) (N:=some 105) #[J,J,J,J,J,O,J,O,O] rfl rfl (any_of HT_.out (by kernel_rfl)) (fun _ _ _ h=>h) (Or.inl ⟨by rfl,qy⟩) qz ?_;refine take_ (i:=5) (N:=some 106) (v:=?_) (a':=?_) #[J,J,J,J,J,J,J,O,O] rfl rfl (take_ofW HT_.out HW_.out (by kernel_rfl)) (fun _ _ _ h=>h) (Or.inl ⟨by rfl,?_⟩) hHeld ?_ ?_;rotate_left
                 ·rintro w' ⟨s0,s1,s2,s3,s4,s5,s6,s7⟩
                  go_simp;with_reducible rfl
                 rotate_left
                 ·simp only[Act.put,zH,zI,zJ,i64_w,i32_w]
                  rfl
                 refine take_ (i:=7) (N:=some 108) (v:=?_) (a':=?_) #[J,J,J,J,J,J,J,J,O] rfl rfl (take_ofW HT_.out HW_.out (by kernel_rfl)) (fun _ _ _ h=>h) (Or.inl ⟨by rfl,?_⟩) hHeld ?_ ?_;rotate_left
                 ·rintro w' ⟨s0,s1,s2,s3,s4,s5,s6,s7⟩
                  go_simp;with_reducible rfl
                 rotate_left
                 ·simp only[Act.put,zH,zI,zJ,i64_w,i32_w]
                  rfl
                 refine pure_ (i:=8) (N:=some 109) #[J,J,J,J,J,J,J,J,J] rfl rfl (any_of HT_.out (by kernel_rfl)) (fun _ _ _ h=>h) (Or.inl ⟨by rfl,qy⟩) qz ?_;refine done_ (done_of HT_.out (by kernel_rfl)) ?_;try go_wp2
                 go_roundg k4
                 case measure=>have:=HJ2.out;have:=HK2.out;have:=HK3.out;have:=HK4.out;omega
                 case rel=>exact⟨(x6_4),(wrap64 (x9_4+1)),qF_,H',⟨by have:=HJ2.out;have:=HK2.out;have:=HK3.out;have:=HK4.out;omega⟩,⟨qR_ HO_6.out⟩,⟨by exact BK101.out⟩,⟨by exact BK102.out⟩,⟨qB⟩⟩
                rw[if_neg c64] at H;have c64b0:(((rd_T169 l0_1 t114).f2).toList==((rd_T169 l1_1 x9_4).f2).toList)=false:=beq_eq_false_iff_ne.mpr c64;have c64b1:(((rd_T169 l0_1 t114).f2).toList !=((rd_T169 l1_1 x9_4).f2).toList)=true:=bne_iff_ne.mpr c64;by_cases c74:x6_4.length < 3518437208883
                ·rw[if_pos c74] at H
                 have LMc74:=zA c74;clear c74;obtain⟨y119,hy119⟩: ∃ y_:List (S173),y_=(x6_4++ [(⟨x7_2,2,(rd_T169 l1_1 x9_4).f1,(rd_T169 l1_1 x9_4).f2⟩:S173)]):=⟨_,rfl⟩
                 replace H:(aA.l2 k4 y119 x7_2 (wrap64 (x9_4+1)) a0_0 l0_1 a1_0 l1_1)=some (r1,r2):=by first|(rw[hy119];with_reducible exact H)|(have H2_:=(Option.bind_some _ _).symm.trans H;rw[hy119];with_reducible exact H2_)|(have H2_:=(Option.bind_some _ _).symm.trans H;with_reducible exact H2_)|with_reducible exact H|(rw[hy119];exact H)|exact H
                 have Ny119:=zA hy119;clear hy119;have H':=zA H;clear H;have hnb75:=NB102_101.out;have hnc75:=NB101_102.out;obtain⟨_,_,_,_⟩:=qc2f BK102.out;have p112:0≤(x9_4:Int):=qO_;have q112:x9_4 < (l1_1.length:Int):=qO_;obtain⟨ad112,e112,hx112_0,hx112_1,hx112_2⟩:=at_T169 HR1_1.out x9_4 p112 q112;cases e112
                 replace hx112_0:=qU_ hx112_0;replace hx112_1:=qU_ hx112_1;replace hx112_2:=qU_ hx112_2;replace p112:=eq_true p112;replace q112:=eq_true q112;try go_wp2_with (first|((with_reducible refine gate_dst (N:=10) rfl ?_);refine box_event qr (N:=10) qr (cs:= #[.int .i64 0,.int .i64 0,.string (⟨#[]⟩:ByteArray)]) (t:=169) qg ?_;intro gb113 hg w77 hbox hb;replace HO_6:=zA (Kd.R_below (qR_ HO_6.out) hb);have BK113:=zA (hbox);have GW113:=zA ((qS:w.heap.size≤gb113));have GE113:=zA ((qS:w.heap.size≤gb113));replace HB:=zA (zV qB hb);have NB101_113:=zA ((by rw[hg];exact zLq (qL BK101.out):gb101≠gb113));have NB113_101:=zA ((by rw[hg];exact zMq (qL BK101.out):gb113≠gb101));replace BK101:=zA (qX BK101.out hb);have NB102_113:=zA ((by rw[hg];exact zLq (qL BK102.out):gb102≠gb113));have NB113_102:=zA ((by rw[hg];exact zMq (qL BK102.out):gb113≠gb102));replace BK102:=zA (qX BK102.out hb);clear hb hbox hg;have hnb78:=NB113_101.out;have hnc78:=NB101_113.out;have hnb79:=NB113_102.out;have hnc79:=NB102_113.out;obtain⟨_,_,_,_,_,_⟩:=qc3f BK113.out;obtain⟨_,_,_,_⟩:=qc2f BK101.out)|((with_reducible refine zJq (f:=103) rfl ?_);refine goesL_ (some 89) rfl rfl Try.func103 (by kernel_rfl) rfl #[.agg #[.int .i64 a0_0,.slice A0_1 l0_1.length c0_1],.int .i64 x7_2,.int .i64 ((rd_T169 l1_1 x9_4).f1)] rfl qG ?_;(with_reducible refine(bB.calls k4 a0_0 _ _ l0_1 x7_2 ((rd_T169 l1_1 x9_4).f1) t114 _ ?side1 ?side2 A49.out).mono ?_);(case side1=>exact Kd.C_below HR0_1.out qB);(case side2=>exact HC0_1.out);rintro e w82 ⟨rfl,hb⟩;refine⟨_,rfl,?_⟩;replace HO_6:=zA (Kd.R_below (by(with_reducible repeat(first|apply Kd.R_alloc|apply Kd.R_drewN|apply Kd.R_drew));exact(Kd.R_mono (Kd.R_far (p:=⟨gb113,2,none⟩) (Kd.R_far (p:=⟨gb113,1,none⟩) (Kd.R_far (p:=⟨gb113,0,none⟩) (Kd.R_types HO_6.out BK113.out (by decide)) (fun _ hk=>hk.2) (.int .i64 ((rd_T169 l1_1 x9_4).f0))) (fun _ hk=>hk.2) (.int .i64 ((rd_T169 l1_1 x9_4).f1))) (fun _ hk=>hk.2) (.string ((rd_T169 l1_1 x9_4).f2))) (fun _ h_=>h_.1))) hb);replace BK101:=zA (qX BK101.out hb);replace BK102:=zA (qX BK102.out hb);replace BK113:=zA (zX (g:=gb113) (o:= .cells #[.int .i64 ((rd_T169 l1_1 x9_4).f0),.int .i64 ((rd_T169 l1_1 x9_4).f1),.string ((rd_T169 l1_1 x9_4).f2)] 169 (0,0)) (qV BK113.out) hb);replace HB:=zA (zV qB hb);(try clear hb)))
                 replace HO_6:=zA (Kd.R_drew HO_6.out);replace BK101:=zA (zAq BK101.out);replace BK102:=zA (zAq BK102.out);replace BK113:=zA (zAq BK113.out);replace HB:=zA (zC HB.out);have p118:0≤(t114:Int):=qO_;have q118:t114 < (l0_1.length:Int):=qO_;obtain⟨ad118,e118,hx118_0,hx118_1,hx118_2⟩:=at_T169 HR0_1.out t114 p118 q118;have hw118_2:=hx118_2;have hw118_1:=hx118_1;have hw118_0:=hx118_0;cases e118
                 replace hx118_0:=qU_ hx118_0;replace hx118_1:=qU_ hx118_1;replace hx118_2:=qU_ hx118_2;replace p118:=eq_true p118;replace q118:=eq_true q118;refine start_ (n:=9) (S:=fun w'=>w'.cell? ⟨gb101,0,none⟩=some (.int .i64 a0_0)∧w'.cell? ⟨gb101,1,none⟩=some (.slice (some ad118) l0_1.length c0_1)∧w'.cell? ⟨gb113,0,none⟩=some (.int .i64 ((rd_T169 l1_1 x9_4).f0))∧w'.cell? ⟨gb113,1,none⟩=some (.int .i64 ((rd_T169 l1_1 x9_4).f1))∧w'.cell? ⟨gb113,2,none⟩=some (.string ((rd_T169 l1_1 x9_4).f2))∧w'.cell? (ad118.add ((t114).toNat * 3))=some (.int .i64 ((rd_T169 l0_1 t114).f0))∧w'.cell? ⟨(ad118.add ((t114).toNat * 3)).block,(ad118.add ((t114).toNat * 3)).off+1,none⟩=some (.int .i64 ((rd_T169 l0_1 t114).f1))∧w'.cell? ⟨(ad118.add ((t114).toNat * 3)).block,(ad118.add ((t114).toNat * 3)).off+2,none⟩=some (.string ((rd_T169 l0_1 t114).f2))) (ds:=[]) #[O,O,O,O,O,O,O,O,O] (by kernel_rfl) rfl rfl ⟨(zF BK101.out 0).trans rfl,(zF BK101.out 1).trans rfl,(zF BK113.out 0).trans rfl,(zF BK113.out 1).trans rfl,(zF BK113.out 2).trans rfl,(qU_ hw118_0),(qU_ hw118_1),(qU_ hw118_2)⟩ (fun hHeld=>?_);refine with_tabW aA.tab22 aA.bits22 (fun HT_ HW_=>?_);generalize w82.drew=w83 at HO_6 BK101 BK102 BK113 HB hx118_0 hx118_1 hx118_2 hHeld⊢;refine pure_ (i:=0) (N:=some 101) #[J,O,O,O,O,O,O,O,O] rfl rfl (any_of HT_.out (by kernel_rfl)) (fun _ _ _ h=>h) (Or.inl ⟨by rfl,qy⟩) qz ?_;refine pure_ (i:=2) (N:=some 103) #[J,O,J,O,O,O,O,O,O] rfl rfl (any_of HT_.out (by kernel_rfl)) (fun _ _ _ h=>h) (Or.inl ⟨by rfl,qy⟩) qz ?_;refine pure_ (i:=6) (N:=some 107) #[J,O,J,O,O,O,J,O,O] rfl rfl (any_of HT_.out (by kernel_rfl)) (fun _ _ _ h=>h) (Or.inl ⟨by rfl,qy⟩) qz ?_;refine take_ (i:=1) (N:=some 102) (v:=?_) (a':=?_) #[J,J,J,O,O,O,J,O,O] rfl rfl (take_ofW HT_.out HW_.out (by kernel_rfl)) (fun _ _ _ h=>h) (Or.inl ⟨by rfl,?_⟩) hHeld ?_ ?_;rotate_left
                 ·rintro w' ⟨s0,s1,s2,s3,s4,s5,s6,s7⟩
                  go_simp;with_reducible rfl
                 rotate_left
                 ·simp only[Act.put,zH,zI,zJ,i64_w,i32_w]
                  rfl
                 refine pure_ (i:=3) (N:=some 104) #[J,J,J,J,O,O,J,O,O] rfl rfl (any_of HT_.out (by kernel_rfl)) (fun _ _ _ h=>h) (Or.inl ⟨by rfl,qy⟩) qz ?_;refine pure_ (i:=4) (N:=some 105) #[J,J,J,J,J,O,J,O,O] rfl rfl (any_of HT_.out (by kernel_rfl)) (fun _ _ _ h=>h) (Or.inl ⟨by rfl,qy⟩) qz ?_;refine take_ (i:=5) (N:=some 106) (v:=?_) (a':=?_) #[J,J,J,J,J,J,J,O,O] rfl rfl (take_ofW HT_.out HW_.out (by kernel_rfl)) (fun _ _ _ h=>h) (Or.inl ⟨by rfl,?_⟩) hHeld ?_ ?_;rotate_left
                 ·rintro w' ⟨s0,s1,s2,s3,s4,s5,s6,s7⟩
                  go_simp;with_reducible rfl
                 rotate_left
                 ·simp only[Act.put,zH,zI,zJ,i64_w,i32_w]
                  rfl
                 refine take_ (i:=7) (N:=some 108) (v:=?_) (a':=?_) #[J,J,J,J,J,J,J,J,O] rfl rfl (take_ofW HT_.out HW_.out (by kernel_rfl)) (fun _ _ _ h=>h) (Or.inl ⟨by rfl,?_⟩) hHeld ?_ ?_;rotate_left
                 ·rintro w' ⟨s0,s1,s2,s3,s4,s5,s6,s7⟩
                  go_simp;with_reducible rfl
                 rotate_left
                 ·simp only[Act.put,zH,zI,zJ,i64_w,i32_w]
                  rfl
                 refine pure_ (i:=8) (N:=some 109) #[J,J,J,J,J,J,J,J,J] rfl rfl (any_of HT_.out (by kernel_rfl)) (fun _ _ _ h=>h) (Or.inl ⟨by rfl,qy⟩) qz ?_;refine done_ (done_of HT_.out (by kernel_rfl)) ?_;obtain⟨_,_,_,_,_,_⟩:=qc3f BK113.out;try go_wp2_with (first|((with_reducible refine gate_builtin (b:= .append) (xs:= #[.tmp 110,.tmp 117]) rfl ?_);at_builtin;refine Kd.R_append k173 (w0:=w) w.heap.size rfl (.tmp 110) (.tmp 117) 88 173 (.agg #[(.int .i64 0),(.int .i64 0),(.int .i64 0),(.string ⟨#[]⟩)]) 40 rfl Try.underlying88 info173 rfl (by decide) (by omega) u6 x6_4 (⟨x7_2,2,(rd_T169 l1_1 x9_4).f1,(rd_T169 l1_1 x9_4).f2⟩:S173) [.int .i64 x7_2,.int .i64 2,.int .i64 ((rd_T169 l1_1 x9_4).f1),.string ((rd_T169 l1_1 x9_4).f2)] (fun _=>True) (fun _=>False) rfl rfl ?aP (fun _ hk=>hk.elim) ?aF ?aO ?aB ?aS ?aL ?_;(case aP=>exact k173_mkM _ _ _ (⟨x7_2,2,(rd_T169 l1_1 x9_4).f1,(rd_T169 l1_1 x9_4).f2⟩:S173));(case aB=>exact qB);(case aF=>exact(fun _ _=>trivial));(case aO=>exact(qR_ HO_6.out));(case aS=>exact(zW qB));(case aL=>have:=LMc74.out;omega);intro v120 w85 ho hb hg hat;rw[←Ny119.out] at ho;replace BK101:=zA (blk_grown (g:=gb101) (o:= .cells #[.int .i64 a0_0,.slice (some ad118) l0_1.length c0_1] 82 (0,0)) (qW BK101.out) hg (Kd.R_ne HO_6.out BK101.out (by decide)));replace BK102:=zA (blk_grown (g:=gb102) (o:= .cells #[.int .i64 a1_0,.slice (some ad112) l1_1.length c1_1] 82 (0,0)) (qW BK102.out) hg (Kd.R_ne HO_6.out BK102.out (by decide)));replace BK113:=zA (blk_grown (g:=gb113) (o:= .cells #[.int .i64 ((rd_T169 l1_1 x9_4).f0),.int .i64 ((rd_T169 l1_1 x9_4).f1),.string ((rd_T169 l1_1 x9_4).f2)] 169 (0,0)) (qW BK113.out) hg (Kd.R_ne HO_6.out BK113.out (by decide)));replace HB:=zA (hb);have HO121:=zA (ho);clear HO_6 ho hb hg hat))
                 go_roundg k4
                 case measure=>have:=HJ2.out;have:=HK2.out;have:=HK3.out;have:=HK4.out;omega
                 case rel=>exact⟨(y119),(wrap64 (x9_4+1)),qF_,H',⟨by have:=HJ2.out;have:=HK2.out;have:=HK3.out;have:=HK4.out;omega⟩,⟨qR_ HO121.out⟩,⟨by exact BK101.out⟩,⟨by exact BK102.out⟩,⟨qB⟩⟩
                rw[if_neg c74] at H;exact absurd H (by simp)
               rw[if_neg c63] at H;exact absurd H (by simp)
              rw[if_neg c62] at H;exact absurd H (by simp)
             rw[if_neg c48] at H;have c48b0:(((rd_T169 l1_1 x9_4).f0)==x7_2)=false:=beq_eq_false_iff_ne.mpr c48;have c48b1:(((rd_T169 l1_1 x9_4).f0) != x7_2)=true:=bne_iff_ne.mpr c48;have H':=zA H;clear H;have hnb86:=NB102_101.out;have hnc86:=NB101_102.out;obtain⟨_,_,_,_⟩:=qc2f BK102.out;have p112:0≤(x9_4:Int):=qO_;have q112:x9_4 < (l1_1.length:Int):=qO_;obtain⟨ad112,e112,hx112_0,hx112_1,hx112_2⟩:=at_T169 HR1_1.out x9_4 p112 q112;cases e112
             replace hx112_0:=qU_ hx112_0;replace hx112_1:=qU_ hx112_1;replace hx112_2:=qU_ hx112_2;replace p112:=eq_true p112;replace q112:=eq_true q112;go_wp2_with (first|((with_reducible refine gate_dst (N:=10) rfl ?_);refine box_event qr (N:=10) qr (cs:= #[.int .i64 0,.int .i64 0,.string (⟨#[]⟩:ByteArray)]) (t:=169) qg ?_;intro gb113 hg w88 hbox hb;replace HO_6:=zA (Kd.R_below (qR_ HO_6.out) hb);have BK113:=zA (hbox);have GW113:=zA ((qS:w.heap.size≤gb113));have GE113:=zA ((qS:w.heap.size≤gb113));replace HB:=zA (zV qB hb);have NB101_113:=zA ((by rw[hg];exact zLq (qL BK101.out):gb101≠gb113));have NB113_101:=zA ((by rw[hg];exact zMq (qL BK101.out):gb113≠gb101));replace BK101:=zA (qX BK101.out hb);have NB102_113:=zA ((by rw[hg];exact zLq (qL BK102.out):gb102≠gb113));have NB113_102:=zA ((by rw[hg];exact zMq (qL BK102.out):gb113≠gb102));replace BK102:=zA (qX BK102.out hb);clear hb hbox hg;have hnb89:=NB113_101.out;have hnc89:=NB101_113.out;have hnb90:=NB113_102.out;have hnc90:=NB102_113.out;obtain⟨_,_,_,_,_,_⟩:=qc3f BK113.out));go_roundg k4
             case measure=>have:=HJ2.out;have:=HK2.out;have:=HK3.out;have:=HK4.out;omega
             case rel=>exact⟨(x6_4),(wrap64 (x9_4+1)),qF_,H',⟨by have:=HJ2.out;have:=HK2.out;have:=HK3.out;have:=HK4.out;omega⟩,⟨by(with_reducible repeat(first|apply Kd.R_alloc|apply Kd.R_drewN|apply Kd.R_drew));exact Kd.R_mono (Kd.R_far (p:=⟨gb113,2,none⟩) (Kd.R_far (p:=⟨gb113,1,none⟩) (Kd.R_far (p:=⟨gb113,0,none⟩) (Kd.R_types HO_6.out BK113.out (by decide)) (fun _ hk=>hk.2) (.int .i64 ((rd_T169 l1_1 x9_4).f0))) (fun _ hk=>hk.2) (.int .i64 ((rd_T169 l1_1 x9_4).f1))) (fun _ hk=>hk.2) (.string ((rd_T169 l1_1 x9_4).f2))) (fun _ hk=>trivial)⟩,⟨by(with_reducible repeat(first|refine zY ?_ _|refine zAq ?_|refine zZ ?_ _));refine blk_far ?_ NB101_113.out _;(with_reducible repeat(first|refine zY ?_ _|refine zAq ?_|refine zZ ?_ _));refine blk_far ?_ NB101_113.out _;(with_reducible repeat(first|refine zY ?_ _|refine zAq ?_|refine zZ ?_ _));refine blk_far ?_ NB101_113.out _;exact BK101.out⟩,⟨by(with_reducible repeat(first|refine zY ?_ _|refine zAq ?_|refine zZ ?_ _));refine blk_far ?_ NB102_113.out _;(with_reducible repeat(first|refine zY ?_ _|refine zAq ?_|refine zZ ?_ _));refine blk_far ?_ NB102_113.out _;(with_reducible repeat(first|refine zY ?_ _|refine zAq ?_|refine zZ ?_ _));refine blk_far ?_ NB102_113.out _;exact BK102.out⟩,⟨qB⟩⟩
            rw[if_neg c47] at H;exact absurd H (by simp)
           rw[if_neg c46] at H;have c46b0:=zGq c46;clear c46;have H':=zA H;clear H;have hnb92:=NB102_101.out;have hnc92:=NB101_102.out;obtain⟨_,_,_,_⟩:=qc2f BK102.out;go_wp2;go_roundg k4
           case measure=>have:=HJ2.out;have:=HK2.out;have:=HK3.out;have:=HK4.out;omega
           case rel=>exact⟨(x6_4),(wrap64 (x7_2+1)),qF_,H',⟨by have:=HJ2.out;have:=HK2.out;have:=HK3.out;have:=HK4.out;omega⟩,⟨qR_ HO_6.out⟩,⟨by exact BK101.out⟩,⟨by exact BK102.out⟩,⟨qB⟩⟩
      rw[if_neg c22] at H;have c22b0:=zGq c22;clear c22;simp only[zNq,zOq] at H;obtain⟨rfl,rfl⟩:=H;have hnb94:=NB101_102.out;have hnc94:=NB102_101.out;obtain⟨_,_,_,_⟩:=qc2f BK101.out;go_wp2;go_ret2;exact⟨_,qE,qR_ HO_6.out,qB⟩
   rw[if_neg c18] at H;have c18b0:(a0_0==a1_0)=false:=beq_eq_false_iff_ne.mpr c18;have c18b1:(a0_0 != a1_0)=true:=bne_iff_ne.mpr c18;simp only[zNq,zOq] at H;obtain⟨rfl,rfl⟩:=H;have hnb96:=NB101_102.out;have hnc96:=NB102_101.out;obtain⟨_,_,_,_⟩:=qc2f BK101.out;obtain⟨_,_,_,_⟩:=qc2f BK102.out;go_wp2;go_ret2;exact⟨_,qE,qN,qB⟩
def aH.j0:Nat→ByteArray→Bool→List (List (S164))→List (List (S164))→Option (Bool)
  |0,_,_,_,_=>none
  |k+1,x2,x31,x102000,x103000=>if x31=true then((bF.f).bind fun t105=> (if t105=true then(some true)else(some false)))else((aW.f k x102000).bind fun bt106=> ((aI.f k x102000).bind fun bt108=> ((aJ.f k bt108.1 bt108.2).bind fun bt112=> ((bK.f k x2).bind fun bt114=> ((aD.f k x2).bind fun bt119=> ((bN.f k x102000 x103000).bind fun bt125=> ((aI.f k x102000).bind fun bt129=> ((aI.f k x103000).bind fun bt133=> ((aA.f k bt129.1 bt129.2 bt133.1 bt133.2).bind fun bt137=> (if bt106.1.toList=bt112.1.toList then(if bt106.2=bt112.2 then((bU.f k bt114.1 bt119.1 bt119.2.1).bind fun t141=> (if t141=true then(if bt114.2=bt119.2.2 then((aY.f k bt125.1).bind fun t142=> ((bA.f k t142 bt137.1).bind fun t145=> (if t145=true then(if bt125.2=bt137.2 then((bF.f).bind fun t146=> (if t146=true then(some true)else(some false)))else(some false))else(some false))))else(some false))else(some false)))else(some false))else(some false)))))))))))
def aH.f (k:Nat) (l0_0:List (List (S164))) (l1_0:List (List (S164))) (a2:ByteArray):Option (Bool):=(aN.f k l0_0).bind fun t103=> (if t103=true then((aN.f k l1_0).bind fun t104=> (if t104=true then(aH.j0 k a2 (decide ((a2.size:Int) > 5000)) l0_0 l1_0)else(aH.j0 k a2 true l0_0 l1_0)))else(aH.j0 k a2 true l0_0 l1_0))
theorem aH.mono_l: ∀ k,(∀ y0 y1 y2 y3,LeO (aH.j0 k y0 y1 y2 y3) (aH.j0 (k+1) y0 y1 y2 y3))
  |0=>fun _ _ _ _ r h=>by simp[aH.j0] at h
  |k+1=>by
    have ih0:=aH.mono_l k
    intro y0 y1 y2 y3
    unfold aH.j0
    repeat' (with_reducible first|exact ih0 _ _ _ _|exact aN.mono _ _|exact aI.mono _ _|exact aY.mono _ _|exact bU.mono _ _ _ _|exact aA.mono _ _ _ _ _|exact aJ.mono _ _ _|exact bA.mono _ _ _|exact aD.mono _ _|exact bN.mono _ _ _|exact aW.mono _ _|exact bK.mono _ _|exact LeO.refl _|exact LeO.none _|refine LeO.ite ?_ ?_|refine LeO.bind ?_ (fun _=>?_))
theorem aH.mono: ∀ a0 a1 a2 k,LeO (aH.f k a0 a1 a2) (aH.f (k+1) a0 a1 a2):=by
  intro a0 a1 a2 k
  have ih0:=aH.mono_l k
  unfold aH.f
  repeat' (with_reducible first|exact ih0 _ _ _ _|exact aN.mono _ _|exact aI.mono _ _|exact aY.mono _ _|exact bU.mono _ _ _ _|exact aA.mono _ _ _ _ _|exact aJ.mono _ _ _|exact bA.mono _ _ _|exact aD.mono _ _|exact bN.mono _ _ _|exact aW.mono _ _|exact bK.mono _ _|exact LeO.refl _|exact LeO.none _|refine LeO.ite ?_ ?_|refine LeO.bind ?_ (fun _=>?_))
def aH.T8:Bool × List (List Nat × List Nat):=(true,[([],[]),([0],[0]),([],[]),([2,1],[2]),([1,3,3],[1,3]),([4],[4]),([5],[5]),([5],[5]),([6,4,0,1,2,3,4,5,6],[6]),([7,8,0,1,2,3,4,5,6,7,8],[7])])
def aH.B8:List Nat:=[0,1,0,7,15,31,63,63,127,511]
theorem aH.tab8:rtab .any (opsOf Try.f9 8)=aH.T8:=by kernel_rfl
theorem aH.bits8:waitsOk aH.T8.2 aH.B8=true:=by kernel_rfl
theorem aH.calls (k:Nat) (A0_0:Option Addr) (c0_0:Nat) (l0_0:List (List (S164))) (A1_0:Option Addr) (c1_0:Nat) (l1_0:List (List (S164))) (a2:ByteArray) (w:World) (hr0_0:Kd.C (Kd.slice 164 k164) w A0_0 l0_0.length l0_0) (hc0_0:l0_0.length≤c0_0) (hr1_0:Kd.C (Kd.slice 164 k164) w A1_0 l1_0.length l1_0) (hc1_0:l1_0.length≤c1_0) (h:aH.f k l0_0 l1_0 a2=some true):
  Calls Try.prog 9 #[.agg #[.slice A0_0 l0_0.length c0_0],.agg #[.slice A1_0 l1_0.length c1_0],.string a2] w fun e w'=>e= .returned (.bool true)∧Below w.heap.size w w':=by
 have hu75:=Try.underlying75
 have hu82:=Try.underlying82
 have HR0_0:=zA hr0_0
 have HC0_0:=zA hc0_0
 clear hr0_0 hc0_0
 have HR1_0:=zA hr1_0
 have HC1_0:=zA hc1_0
 clear hr1_0 hc1_0
 have HB:=zA (Below.refl w.heap.size w)
 have H:((aN.f k l0_0).bind fun t103=> (if t103=true then((aN.f k l1_0).bind fun t104=> (if t104=true then(aH.j0 k a2 (decide ((a2.size:Int) > 5000)) l0_0 l1_0)else(aH.j0 k a2 true l0_0 l1_0)))else(aH.j0 k a2 true l0_0 l1_0)))=some true:=h
 clear h
 have HC4:=zA H
 clear H
 go_enter Try.func9,Try.ntmps9
 go_upto_region 1 with(first|((with_reducible refine gate_dst (N:=3) rfl ?_);(try(refine gate_guard (by rfl) ?_;dsimp only));refine box_event qr (N:=3) qr (cs:= #[.slice A0_0 l0_0.length c0_0]) (t:=75) qg ?_;intro gb101 hg w5 hbox hb;have BK101:=zA (hbox);have GW101:=zA ((qS:w.heap.size≤gb101));have GE101:=zA ((qS:w.heap.size≤gb101));replace HB:=zA (zV qB hb);clear hb hbox hg)|((with_reducible refine gate_dst (N:=4) rfl ?_);(try(refine gate_guard (by rfl) ?_;dsimp only));refine box_event qr (N:=4) qr (cs:= #[.slice A1_0 l1_0.length c1_0]) (t:=75) qg ?_;intro gb102 hg w6 hbox hb;have BK102:=zA (hbox);have GW102:=zA ((qS:w.heap.size≤gb102));have GE102:=zA ((qS:w.heap.size≤gb102));replace HB:=zA (zV qB hb);have NB101_102:=zA ((by rw[hg];exact zLq (qL BK101.out):gb101≠gb102));have NB102_101:=zA ((by rw[hg];exact zMq (qL BK101.out):gb102≠gb101));replace BK101:=zA (qX BK101.out hb);clear hb hbox hg))
 (try simp only[Act.put,zH,zI,zJ])
 go_cut[31] (fun v31 wc=> ∃ (kq:Nat) (x31_3:Bool),v31= .bool x31_3∧Aside0 (aH.j0 kq a2 x31_3 l0_0 l1_0=some true)∧Aside0 (kq≤k)∧Aside0 (wc.heap[gb101]? =some (.cells #[(.slice A0_0 l0_0.length c0_0)] 75 (0,0)))∧Aside0 (wc.heap[gb102]? =some (.cells #[(.slice A1_0 l1_0.length c1_0)] 75 (0,0)))∧Aside0 (Below w.heap.size w wc))
 case first=>
  have H:=HC4.out;clear HC4;obtain⟨t103,A7,H⟩:=qD_ H;(try dsimp only at H);by_cases c8:t103=true
  ·subst c8
   have H1:((aN.f k l1_0).bind fun t104=> (if t104=true then(aH.j0 k a2 (decide ((a2.size:Int) > 5000)) l0_0 l1_0)else(aH.j0 k a2 true l0_0 l1_0)))=some true:=by first|(rw[if_pos rfl] at H;exact H)|rfl
   clear H;have H:=H1;clear H1;obtain⟨t104,A9,H⟩:=qD_ H;(try dsimp only at H);by_cases c10:t104=true
   ·subst c10
    have H1:(aH.j0 k a2 (decide ((a2.size:Int) > 5000)) l0_0 l1_0)=some true:=by first|(rw[if_pos rfl] at H;exact H)|rfl
    clear H;have H:=H1;clear H1;have H':=zA H;clear H;have hnb11:=NB101_102.out;have hnc11:=NB102_101.out;have hcz12_0:w6.cell? ⟨gb101,0,none⟩=some (.slice A0_0 l0_0.length c0_0):=(zF BK101.out 0).trans rfl;have hfz12_0:=zG BK101.out 0;go_wp2_with (first|((with_reducible refine zJq (f:=41) rfl ?_);refine goesL_ (some 20) rfl rfl Try.func41 (by kernel_rfl) rfl #[.agg #[.slice A0_0 l0_0.length c0_0]] rfl qG ?_;(with_reducible refine(aN.calls k _ _ l0_0 true _ ?side1 ?side2 A7.out).mono ?_);(case side1=>exact qC (Kd.C_below HR0_0.out HB.out));(case side2=>exact HC0_0.out);rintro e w13 ⟨rfl,hb⟩;refine⟨_,rfl,?_⟩;replace BK101:=zA (qX BK101.out hb);replace BK102:=zA (qX BK102.out hb);replace HB:=zA (zV qB hb);(try clear hb);have hcz14_0:w13.cell? ⟨gb102,0,none⟩=some (.slice A1_0 l1_0.length c1_0):=(zF BK102.out 0).trans rfl;have hfz14_0:=zG BK102.out 0)|(go_at_call 41;(with_reducible refine(aN.calls k _ _ l1_0 true _ ?side1 ?side2 A9.out).mono ?_);(case side1=>exact qC (Kd.C_below HR1_0.out HB.out));(case side2=>exact HC1_0.out);rintro e w15 ⟨rfl,hb⟩;replace BK101:=zA (qX BK101.out hb);replace BK102:=zA (qX BK102.out hb);replace HB:=zA (zV qB hb);(try clear hb)));go_meet
    case rel=>exact⟨_,(decide ((a2.size:Int) > 5000)),qF_,H',⟨by first|omega|exact Nat.le_refl _⟩,⟨by exact BK101.out⟩,⟨by exact BK102.out⟩,⟨qB⟩⟩
   replace c10:=Bool.eq_false_iff.mpr c10;subst c10;have H1:(aH.j0 k a2 true l0_0 l1_0)=some true:=by first|(rw[if_neg (show ¬ (false=true) by decide)] at H;exact H)|rfl
   clear H;have H:=H1;clear H1;have H':=zA H;clear H;have hnb16:=NB101_102.out;have hnc16:=NB102_101.out;have hcz17_0:w6.cell? ⟨gb101,0,none⟩=some (.slice A0_0 l0_0.length c0_0):=(zF BK101.out 0).trans rfl;have hfz17_0:=zG BK101.out 0;go_wp2_with (first|((with_reducible refine zJq (f:=41) rfl ?_);refine goesL_ (some 20) rfl rfl Try.func41 (by kernel_rfl) rfl #[.agg #[.slice A0_0 l0_0.length c0_0]] rfl qG ?_;(with_reducible refine(aN.calls k _ _ l0_0 true _ ?side1 ?side2 A7.out).mono ?_);(case side1=>exact qC (Kd.C_below HR0_0.out HB.out));(case side2=>exact HC0_0.out);rintro e w18 ⟨rfl,hb⟩;refine⟨_,rfl,?_⟩;replace BK101:=zA (qX BK101.out hb);replace BK102:=zA (qX BK102.out hb);replace HB:=zA (zV qB hb);(try clear hb);have hcz19_0:w18.cell? ⟨gb102,0,none⟩=some (.slice A1_0 l1_0.length c1_0):=(zF BK102.out 0).trans rfl;have hfz19_0:=zG BK102.out 0)|(go_at_call 41;(with_reducible refine(aN.calls k _ _ l1_0 false _ ?side1 ?side2 A9.out).mono ?_);(case side1=>exact qC (Kd.C_below HR1_0.out HB.out));(case side2=>exact HC1_0.out);rintro e w20 ⟨rfl,hb⟩;replace BK101:=zA (qX BK101.out hb);replace BK102:=zA (qX BK102.out hb);replace HB:=zA (zV qB hb);(try clear hb)));go_meet
   case rel=>exact⟨_,(true),qF_,H',⟨by first|omega|exact Nat.le_refl _⟩,⟨by exact BK101.out⟩,⟨by exact BK102.out⟩,⟨qB⟩⟩
  replace c8:=Bool.eq_false_iff.mpr c8;subst c8;have H1:(aH.j0 k a2 true l0_0 l1_0)=some true:=by first|(rw[if_neg (show ¬ (false=true) by decide)] at H;exact H)|rfl
  clear H;have H:=H1;clear H1;have H':=zA H;clear H;have hnb21:=NB101_102.out;have hnc21:=NB102_101.out;have hcz22_0:w6.cell? ⟨gb101,0,none⟩=some (.slice A0_0 l0_0.length c0_0):=(zF BK101.out 0).trans rfl;have hfz22_0:=zG BK101.out 0;go_wp2_with (first|((with_reducible refine zJq (f:=41) rfl ?_);refine goesL_ (some 20) rfl rfl Try.func41 (by kernel_rfl) rfl #[.agg #[.slice A0_0 l0_0.length c0_0]] rfl qG ?_;(with_reducible refine(aN.calls k _ _ l0_0 false _ ?side1 ?side2 A7.out).mono ?_);(case side1=>exact qC (Kd.C_below HR0_0.out HB.out));(case side2=>exact HC0_0.out);rintro e w23 ⟨rfl,hb⟩;refine⟨_,rfl,?_⟩;replace BK101:=zA (qX BK101.out hb);replace BK102:=zA (qX BK102.out hb);replace HB:=zA (zV qB hb);(try clear hb)));go_meet
  case rel=>exact⟨_,(true),qF_,H',⟨by first|omega|exact Nat.le_refl _⟩,⟨by exact BK101.out⟩,⟨by exact BK102.out⟩,⟨qB⟩⟩
 case rest=>
  clear HC4;try clear c1
  try clear c2
  try clear p2
  try clear c4
  try clear c8
  try clear c9
  try clear c10
  try clear c11
  try clear c16
  try clear c21
  try clear hcz12_0
  try clear hcz14_0
  try clear hcz17_0
  try clear hcz19_0
  try clear hcz22_0
  try clear hfz12_0
  try clear hfz14_0
  try clear hfz17_0
  try clear hfz19_0
  try clear hfz22_0
  obtain⟨kq,x31_3,rfl,HA,HJ3,BK101,BK102,HB⟩:=hcut;cases kq with
  |zero=>exact absurd HA.out (by simp[aH.j0])
  |succ kj3=>
   have H:=HA.out;clear HA;simp only[aH.j0] at H;by_cases c24:x31_3=true
   ·subst c24
    have H1:((bF.f).bind fun t105=> (if t105=true then(some true)else(some false)))=some true:=by first|(rw[if_pos rfl] at H;exact H)|rfl
    clear H;have H:=H1;clear H1;obtain⟨t105,A25,H⟩:=qD_ H;(try dsimp only at H);by_cases c26:t105=true
    ·subst c26
     have H1:(some true)=some true:=by first|(rw[if_pos rfl] at H;exact H)|rfl
     clear H;have H:=H1;clear H1;clear H;go_wp2_with (first|((with_reducible refine zJq (f:=43) rfl ?_);refine goesL_ (some 32) rfl rfl Try.func43 (by kernel_rfl) rfl #[] rfl qG ?_;(with_reducible refine(bF.calls true _ A25.out).mono ?_);rintro e w27 ⟨rfl,hb⟩;refine⟨_,rfl,?_⟩;replace BK101:=zA (qX BK101.out hb);replace BK102:=zA (qX BK102.out hb);replace HB:=zA (zV qB hb);(try clear hb)));go_ret;exact⟨qE,qB⟩
    replace c26:=Bool.eq_false_iff.mpr c26;subst c26;have H1:(some false)=some true:=by first|(rw[if_neg (show ¬ (false=true) by decide)] at H;exact H)|rfl
    clear H;have H:=H1;clear H1;exact absurd H (by simp)
   replace c24:=Bool.eq_false_iff.mpr c24;subst c24;have H1:((aW.f kj3 l0_0).bind fun bt106=> ((aI.f kj3 l0_0).bind fun bt108=> ((aJ.f kj3 bt108.1 bt108.2).bind fun bt112=> ((bK.f kj3 a2).bind fun bt114=> ((aD.f kj3 a2).bind fun bt119=> ((bN.f kj3 l0_0 l1_0).bind fun bt125=> ((aI.f kj3 l0_0).bind fun bt129=> ((aI.f kj3 l1_0).bind fun bt133=> ((aA.f kj3 bt129.1 bt129.2 bt133.1 bt133.2).bind fun bt137=> (if bt106.1.toList=bt112.1.toList then(if bt106.2=bt112.2 then((bU.f kj3 bt114.1 bt119.1 bt119.2.1).bind fun t141=> (if t141=true then(if bt114.2=bt119.2.2 then((aY.f kj3 bt125.1).bind fun t142=> ((bA.f kj3 t142 bt137.1).bind fun t145=> (if t145=true then(if bt125.2=bt137.2 then((bF.f).bind fun t146=> (if t146=true then(some true)else(some false)))else(some false))else(some false))))else(some false))else(some false)))else(some false))else(some false)))))))))))=some true:=by first|(rw[if_neg (show ¬ (false=true) by decide)] at H;exact H)|rfl
   clear H;have H:=H1;clear H1;obtain⟨⟨t106,t107⟩,A28,H⟩:=qD_ H;(try dsimp only at H);obtain⟨⟨t108,t109⟩,A29,H⟩:=qD_ H;(try dsimp only at H);obtain⟨⟨t112,t113⟩,A30,H⟩:=qD_ H;(try dsimp only at H);obtain⟨⟨t114,t117⟩,A31,H⟩:=qD_ H;(try dsimp only at H);obtain⟨⟨t119,t120,t123⟩,A32,H⟩:=qD_ H;(try dsimp only at H);obtain⟨⟨t125,t128⟩,A33,H⟩:=qD_ H;(try dsimp only at H);obtain⟨⟨t129,t130⟩,A34,H⟩:=qD_ H;(try dsimp only at H);obtain⟨⟨t133,t134⟩,A35,H⟩:=qD_ H;(try dsimp only at H);obtain⟨⟨t137,t140⟩,A36,H⟩:=qD_ H;(try dsimp only at H);by_cases c37:t106.toList=t112.toList
   ·rw[if_pos c37] at H
    have c37b0:(t106.toList==t112.toList)=true:=beq_iff_eq.mpr c37;have c37b1:(t106.toList != t112.toList)=false:=bne_eq_false_iff_eq.mpr c37;clear c37;by_cases c38:t107=t113
    ·rw[if_pos c38] at H
     have c38b0:(t107==t113)=true:=beq_iff_eq.mpr c38;have c38b1:(t107 != t113)=false:=bne_eq_false_iff_eq.mpr c38;clear c38;obtain⟨t141,A39,H⟩:=qD_ H;(try dsimp only at H);by_cases c40:t141=true
     ·subst c40
      have H1:(if t117=t123 then((aY.f kj3 t125).bind fun t142=> ((bA.f kj3 t142 t137).bind fun t145=> (if t145=true then(if t128=t140 then((bF.f).bind fun t146=> (if t146=true then(some true)else(some false)))else(some false))else(some false))))else(some false))=some true:=by first|(rw[if_pos rfl] at H;exact H)|rfl
      clear H;have H:=H1;clear H1;by_cases c41:t117=t123
      ·rw[if_pos c41] at H
       have c41b0:(t117==t123)=true:=beq_iff_eq.mpr c41;have c41b1:(t117 != t123)=false:=bne_eq_false_iff_eq.mpr c41;clear c41;obtain⟨t142,A42,H⟩:=qD_ H;(try dsimp only at H);obtain⟨t145,A43,H⟩:=qD_ H;(try dsimp only at H);by_cases c44:t145=true
       ·subst c44
        have H1:(if t128=t140 then((bF.f).bind fun t146=> (if t146=true then(some true)else(some false)))else(some false))=some true:=by first|(rw[if_pos rfl] at H;exact H)|rfl
        clear H;have H:=H1;clear H1;by_cases c45:t128=t140
        ·rw[if_pos c45] at H
         have c45b0:(t128==t140)=true:=beq_iff_eq.mpr c45;have c45b1:(t128 != t140)=false:=bne_eq_false_iff_eq.mpr c45;clear c45;obtain⟨t146,A46,H⟩:=qD_ H;(try dsimp only at H);by_cases c47:t146=true
         ·subst c47
          have H1:(some true)=some true:=by first|(rw[if_pos rfl] at H;exact H)|rfl
          clear H;have H:=H1;clear H1;clear H;have hnb48:=NB101_102.out;have hnc48:=NB102_101.out;have hcz49_0:wc.cell? ⟨gb101,0,none⟩=some (.slice A0_0 l0_0.length c0_0):=(zF BK101.out 0).trans rfl;have hfz49_0:=zG BK101.out 0;try go_wp2_with (first|((with_reducible refine zJq (f:=56) rfl ?_);refine goesL_ (some 35) rfl rfl Try.func56 (by kernel_rfl) rfl #[.agg #[.slice A0_0 l0_0.length c0_0]] rfl qG ?_;(with_reducible refine(aW.calls kj3 _ _ l0_0 t106 t107 _ ?side1 ?side2 A28.out).mono ?_);(case side1=>exact qC (Kd.C_below HR0_0.out HB.out));(case side2=>exact HC0_0.out);rintro e w50 ⟨rfl,hb⟩;refine⟨_,rfl,?_⟩;replace BK101:=zA (qX BK101.out hb);replace BK102:=zA (qX BK102.out hb);replace HB:=zA (zV qB hb);(try clear hb);have hcz51_0:w50.cell? ⟨gb101,0,none⟩=some (.slice A0_0 l0_0.length c0_0):=(zF BK101.out 0).trans rfl;have hfz51_0:=zG BK101.out 0)|((with_reducible refine zJq (f:=44) rfl ?_);refine goesL_ (some 40) rfl rfl Try.func44 (by kernel_rfl) rfl #[.agg #[.slice A0_0 l0_0.length c0_0]] rfl qG ?_;(with_reducible refine(aI.calls kj3 _ _ l0_0 t108 t109 _ ?side1 ?side2 A29.out).mono ?_);(case side1=>exact qC (Kd.C_below HR0_0.out HB.out));(case side2=>exact HC0_0.out);rintro e w52 ⟨v110,rfl,ho0,hb⟩;refine⟨_,rfl,?_⟩;have HO111:=zA (Kd.R_lower ho0 (zW qB));replace BK101:=zA (qX BK101.out hb);replace BK102:=zA (qX BK102.out hb);replace HB:=zA (zV qB hb);(try clear hb);(try clear ho0);obtain⟨Ao53,co53,eo53⟩:=Kd.R_slice HO111.out;subst eo53)|((with_reducible refine zJq (f:=57) rfl ?_);refine goesL_ (some 41) rfl rfl Try.func57 (by kernel_rfl) rfl #[.agg #[.int .i64 t108,.slice Ao53 t109.length co53]] rfl qG ?_;(with_reducible refine(aJ.calls kj3 t108 _ _ t109 t112 t113 _ ?side1 ?side2 A30.out).mono ?_);(case side1=>repeat(first|exact(Kd.R_reads' HO111.out).2.2|(with_reducible refine Kd.C_alloc ?_ _)|(with_reducible refine Kd.C_drewN ?_ _)|(with_reducible refine Kd.C_drew ?_)));(case side2=>exact(Kd.R_reads' HO111.out).2.1);rintro e w54 ⟨rfl,hb⟩;refine⟨_,rfl,?_⟩;replace HO111:=zA (Kd.R_below (qR_ HO111.out) hb);replace BK101:=zA (qX BK101.out hb);replace BK102:=zA (qX BK102.out hb);replace HB:=zA (zV qB hb);(try clear hb))|((with_reducible refine zJq (f:=58) rfl ?_);refine goesL_ (some 46) rfl rfl Try.func58 (by kernel_rfl) rfl #[.string a2] rfl qG ?_;(with_reducible refine(bK.calls kj3 a2 t114 t117 _ A31.out).mono ?_);rintro e w55 ⟨v115,rfl,ho0,hb⟩;refine⟨_,rfl,?_⟩;replace HO111:=zA (Kd.R_below (qR_ HO111.out) hb);have HO116:=zA (Kd.S_lower ho0 (zW qB));replace BK101:=zA (qX BK101.out hb);replace BK102:=zA (qX BK102.out hb);replace HB:=zA (zV qB hb);(try clear hb);(try clear ho0))|((with_reducible refine gate_dst (N:=11) rfl ?_);(try(refine gate_guard (by rfl) ?_;dsimp only));refine box_event qr (N:=11) qr (cs:= #[.slice none 0 0]) (t:=75) qg ?_;intro gb118 hg w56 hbox hb;replace HO111:=zA (Kd.R_below (qR_ HO111.out) hb);replace HO116:=zA (Kd.S_below (qS_ HO116.out) hb);have BK118:=zA (hbox);have GW118:=zA ((qS:w.heap.size≤gb118));have GE118:=zA ((qS:w.heap.size≤gb118));replace HB:=zA (zV qB hb);have NB101_118:=zA ((by rw[hg];exact zLq (qL BK101.out):gb101≠gb118));have NB118_101:=zA ((by rw[hg];exact zMq (qL BK101.out):gb118≠gb101));replace BK101:=zA (qX BK101.out hb);have NB102_118:=zA ((by rw[hg];exact zLq (qL BK102.out):gb102≠gb118));have NB118_102:=zA ((by rw[hg];exact zMq (qL BK102.out):gb118≠gb102));replace BK102:=zA (qX BK102.out hb);clear hb hbox hg;obtain⟨Ao57,co57,eo57⟩:=Kd.S_slice HO116.out;subst eo57;have hnb58:=NB118_101.out;have hnc58:=NB101_118.out;have hnb59:=NB118_102.out;have hnc59:=NB102_118.out;have hcz60_0:w56.cell? ⟨gb118,0,none⟩=some (.slice none 0 0):=(zF BK118.out 0).trans rfl;have hfz60_0:=zG BK118.out 0)|((with_reducible refine zJq (f:=59) rfl ?_);refine goesL_ (some 51) rfl rfl Try.func59 (by kernel_rfl) rfl #[.string a2] rfl qG ?_;(with_reducible refine(aD.calls kj3 a2 t119 t120 t123 _ A32.out).mono ?_);rintro e w61 ⟨v121,rfl,ho0,hb⟩;refine⟨_,rfl,?_⟩;replace HO116:=zA (Kd.S_below (by(with_reducible repeat(first|apply Kd.S_alloc|apply Kd.S_drewN|apply Kd.S_drew));exact(Kd.S_mono (Kd.S_far (p:=⟨gb118,0,none⟩) (Kd.S_types HO116.out BK118.out (by decide)) (fun _ hk=>hk.2) (.slice Ao57 t114.length co57)) (fun _ h_=>h_.1))) hb);have HO122:=zA (Kd.R_lower (Kd.R_new' ho0 (Kd.R_lt (by(with_reducible repeat(first|apply Kd.R_alloc|apply Kd.R_drewN|apply Kd.R_drew));exact(Kd.R_mono (Kd.R_far (p:=⟨gb118,0,none⟩) (Kd.R_types HO111.out BK118.out (by decide)) (fun _ hk=>hk.2) (.slice Ao57 t114.length co57)) (fun _ h_=>h_.1))))) (zW qB));replace HO111:=zA (Kd.R_elder' (by(with_reducible repeat(first|apply Kd.R_alloc|apply Kd.R_drewN|apply Kd.R_drew));exact(Kd.R_mono (Kd.R_far (p:=⟨gb118,0,none⟩) (Kd.R_types HO111.out BK118.out (by decide)) (fun _ hk=>hk.2) (.slice Ao57 t114.length co57)) (fun _ h_=>h_.1))) (Kd.R_base ho0) hb);replace BK101:=zA (qX BK101.out hb);replace BK102:=zA (qX BK102.out hb);replace BK118:=zA (zX (g:=gb118) (o:= .cells #[.slice Ao57 t114.length co57] 75 (0,0)) (by(with_reducible repeat(first|refine zY ?_ _|refine zAq ?_|refine zZ ?_ _));refine blk_put (cs:= #[.slice none 0 0]) ?_ 0 _ rfl;exact BK118.out) hb);replace HB:=zA (zV qB hb);(try clear hb);(try clear ho0))|((with_reducible refine gate_dst (N:=13) rfl ?_);(try(refine gate_guard (by rfl) ?_;dsimp only));refine box_event qr (N:=13) qr (cs:= #[.int .i64 0,.slice none 0 0]) (t:=82) qg ?_;intro gb124 hg w62 hbox hb;replace HO111:=zA (Kd.R_below (qR_ HO111.out) hb);replace HO116:=zA (Kd.S_below (qS_ HO116.out) hb);replace HO122:=zA (Kd.R_below (qR_ HO122.out) hb);have BK124:=zA (hbox);have GW124:=zA ((qS:w.heap.size≤gb124));have GE124:=zA ((qS:w.heap.size≤gb124));replace HB:=zA (zV qB hb);have NB101_124:=zA ((by rw[hg];exact zLq (qL BK101.out):gb101≠gb124));have NB124_101:=zA ((by rw[hg];exact zMq (qL BK101.out):gb124≠gb101));replace BK101:=zA (qX BK101.out hb);have NB102_124:=zA ((by rw[hg];exact zLq (qL BK102.out):gb102≠gb124));have NB124_102:=zA ((by rw[hg];exact zMq (qL BK102.out):gb124≠gb102));replace BK102:=zA (qX BK102.out hb);have NB118_124:=zA ((by rw[hg];exact zLq (qL BK118.out):gb118≠gb124));have NB124_118:=zA ((by rw[hg];exact zMq (qL BK118.out):gb124≠gb118));replace BK118:=zA (qX BK118.out hb);clear hb hbox hg;have hnb63:=NB124_101.out;have hnc63:=NB101_124.out;have hnb64:=NB124_102.out;have hnc64:=NB102_124.out;have hnb65:=NB124_118.out;have hnc65:=NB118_124.out;obtain⟨_,_,_,_⟩:=qc2f BK124.out;obtain⟨Ao67,co67,eo67⟩:=Kd.R_slice HO122.out;subst eo67;have hcz68_0:w62.cell? ⟨gb101,0,none⟩=some (.slice A0_0 l0_0.length c0_0):=(zF BK101.out 0).trans rfl;have hfz68_0:=zG BK101.out 0;have hcz69_0:w62.cell? ⟨gb102,0,none⟩=some (.slice A1_0 l1_0.length c1_0):=(zF BK102.out 0).trans rfl;have hfz69_0:=zG BK102.out 0)|((with_reducible refine zJq (f:=60) rfl ?_);refine goesL_ (some 57) rfl rfl Try.func60 (by kernel_rfl) rfl #[.agg #[.slice A0_0 l0_0.length c0_0],.agg #[.slice A1_0 l1_0.length c1_0]] rfl qG ?_;(with_reducible refine(bN.calls kj3 _ _ l0_0 _ _ l1_0 t125 t128 _ ?side1 ?side2 ?side3 ?side4 A33.out).mono ?_);(case side1=>exact Kd.C_below HR0_0.out qB);(case side2=>exact HC0_0.out);(case side3=>exact Kd.C_below HR1_0.out qB);(case side4=>exact HC1_0.out);rintro e w70 ⟨v126,rfl,ho0,hb⟩;refine⟨_,rfl,?_⟩;replace HO111:=zA (Kd.R_below (by(with_reducible repeat(first|apply Kd.R_alloc|apply Kd.R_drewN|apply Kd.R_drew));exact(Kd.R_mono (Kd.R_far (p:=⟨gb124,1,none⟩) (Kd.R_far (p:=⟨gb124,0,none⟩) (Kd.R_types HO111.out BK124.out (by decide)) (fun _ hk=>hk.2) (.int .i64 t119)) (fun _ hk=>hk.2) (.slice Ao67 t120.length co67)) (fun _ h_=>h_.1))) hb);replace HO116:=zA (Kd.S_below (by(with_reducible repeat(first|apply Kd.S_alloc|apply Kd.S_drewN|apply Kd.S_drew));exact(Kd.S_mono (Kd.S_far (p:=⟨gb124,1,none⟩) (Kd.S_far (p:=⟨gb124,0,none⟩) (Kd.S_types HO116.out BK124.out (by decide)) (fun _ hk=>hk.2) (.int .i64 t119)) (fun _ hk=>hk.2) (.slice Ao67 t120.length co67)) (fun _ h_=>h_.1))) hb);replace HO122:=zA (Kd.R_below (by(with_reducible repeat(first|apply Kd.R_alloc|apply Kd.R_drewN|apply Kd.R_drew));exact(Kd.R_mono (Kd.R_far (p:=⟨gb124,1,none⟩) (Kd.R_far (p:=⟨gb124,0,none⟩) (Kd.R_types HO122.out BK124.out (by decide)) (fun _ hk=>hk.2) (.int .i64 t119)) (fun _ hk=>hk.2) (.slice Ao67 t120.length co67)) (fun _ h_=>h_.1))) hb);have HO127:=zA (Kd.R_lower ho0 (zW qB));replace BK101:=zA (qX BK101.out hb);replace BK102:=zA (qX BK102.out hb);replace BK118:=zA (qX BK118.out hb);replace BK124:=zA (zX (g:=gb124) (o:= .cells #[.int .i64 t119,.slice Ao67 t120.length co67] 82 (0,0)) (qV BK124.out) hb);replace HB:=zA (zV qB hb);(try clear hb);(try clear ho0)))
          replace HO111:=zA (Kd.R_drew HO111.out);replace HO116:=zA (Kd.S_drew HO116.out);replace HO122:=zA (Kd.R_drew HO122.out);replace HO127:=zA (Kd.R_drew HO127.out);replace BK101:=zA (zAq BK101.out);replace BK102:=zA (zAq BK102.out);replace BK118:=zA (zAq BK118.out);replace BK124:=zA (zAq BK124.out);replace HB:=zA (zC HB.out);refine start_ (n:=10) (S:=fun w'=>w'.cell? ⟨gb101,0,none⟩=some (.slice A0_0 l0_0.length c0_0)∧w'.cell? ⟨gb102,0,none⟩=some (.slice A1_0 l1_0.length c1_0)) (ds:=[]) #[O,O,O,O,O,O,O,O,O,O] (by kernel_rfl) rfl rfl ⟨(zF BK101.out 0).trans rfl,(zF BK102.out 0).trans rfl⟩ (fun hHeld=>?_);refine with_tabW aH.tab8 aH.bits8 (fun HT_ HW_=>?_);generalize w70.drew=w71 at HO111 HO116 HO122 HO127 BK101 BK102 BK118 BK124 HB hHeld⊢;refine take_ (i:=0) (N:=some 61) (v:=?_) (a':=?_) #[J,O,O,O,O,O,O,O,O,O] rfl rfl (take_ofW HT_.out HW_.out (by kernel_rfl)) (fun _ _ _ h=>h) (Or.inl ⟨by rfl,?_⟩) hHeld ?_ ?_;rotate_left
          ·rintro w' ⟨s0,s1⟩
           go_simp;with_reducible rfl
          rotate_left
          ·simp only[Act.put,zH,zI,zJ,i64_w,i32_w]
           rfl
          refine take_ (i:=2) (N:=some 63) (v:=?_) (a':=?_) #[J,O,J,O,O,O,O,O,O,O] rfl rfl (take_ofW HT_.out HW_.out (by kernel_rfl)) (fun _ _ _ h=>h) (Or.inl ⟨by rfl,?_⟩) hHeld ?_ ?_;rotate_left
          ·rintro w' ⟨s0,s1⟩
           go_simp;with_reducible rfl
          rotate_left
          ·simp only[Act.put,zH,zI,zJ,i64_w,i32_w]
           rfl
          refine one_ (i:=1) (N:=some 62) #[J,J,J,O,O,O,O,O,O,O] rfl rfl (one_of HT_.out (by kernel_rfl)) (by decide) (fun K hK=>?_);refine goes_ Try.func44 (by kernel_rfl) rfl #[.agg #[.slice A0_0 l0_0.length c0_0]] (by rfl) rfl rfl qG ?_;with_reducible refine(aI.calls kj3 _ _ l0_0 t129 t130 _ ?side1 ?side2 A34.out).mono ?_
          (case side1=>exact qC (Kd.C_below HR0_0.out HB.out))
          (case side2=>exact HC0_0.out)
          rintro e w72 ⟨v131,rfl,ho0,hb⟩;refine⟨_,rfl,?_⟩;replace HO116:=zA (Kd.S_below (qS_ HO116.out) hb);replace HO127:=zA (Kd.R_below (qR_ HO127.out) hb);have HO132:=zA (Kd.R_lower (Kd.R_new' (Kd.R_new' ho0 (Kd.R_lt (qR_ HO111.out))) (Kd.R_lt (qR_ HO122.out))) (zW qB));replace HO111:=zA (Kd.R_elder' (qR_ HO111.out) (Kd.R_base ho0) hb);replace HO122:=zA (Kd.R_elder' (qR_ HO122.out) (Kd.R_base ho0) hb);replace BK101:=zA (qX BK101.out hb);replace BK102:=zA (qX BK102.out hb);replace BK118:=zA (qX BK118.out hb);replace BK124:=zA (qX BK124.out hb);replace HB:=zA (zV qB hb);(try clear hb);(try clear ho0);refine hK.out _ _ ⟨(zF BK101.out 0).trans rfl,(zF BK102.out 0).trans rfl⟩ (fun hHeld=>?_);clear hK K;refine norm_ (a':=?_) ?_ ?_;rotate_left
          ·show Act.put _ (some 62) _=_
           simp only[Act.put,zH,zI,zJ,i64_w,i32_w];rfl
          refine one_ (i:=3) (N:=some 64) #[J,J,J,J,O,O,O,O,O,O] rfl rfl (one_of HT_.out (by kernel_rfl)) (by decide) (fun K hK=>?_);refine goes_ Try.func44 (by kernel_rfl) rfl #[.agg #[.slice A1_0 l1_0.length c1_0]] (by rfl) rfl rfl qG ?_;with_reducible refine(aI.calls kj3 _ _ l1_0 t133 t134 _ ?side1 ?side2 A35.out).mono ?_
          (case side1=>exact qC (Kd.C_below HR1_0.out HB.out))
          (case side2=>exact HC1_0.out)
          rintro e w73 ⟨v135,rfl,ho0,hb⟩;refine⟨_,rfl,?_⟩;replace HO116:=zA (Kd.S_below (qS_ HO116.out) hb);replace HO127:=zA (Kd.R_below (qR_ HO127.out) hb);have HO136:=zA (Kd.R_lower (Kd.R_new' (Kd.R_new' (Kd.R_new' ho0 (Kd.R_lt (qR_ HO111.out))) (Kd.R_lt (qR_ HO122.out))) (Kd.R_lt (qR_ HO132.out))) (zW qB));replace HO111:=zA (Kd.R_elder' (qR_ HO111.out) (Kd.R_base ho0) hb);replace HO122:=zA (Kd.R_elder' (qR_ HO122.out) (Kd.R_base ho0) hb);replace HO132:=zA (Kd.R_elder' (qR_ HO132.out) (Kd.R_base ho0) hb);replace BK101:=zA (qX BK101.out hb);replace BK102:=zA (qX BK102.out hb);replace BK118:=zA (qX BK118.out hb);replace BK124:=zA (qX BK124.out hb);replace HB:=zA (zV qB hb);(try clear hb);(try clear ho0);obtain⟨Ao74,co74,eo74⟩:=Kd.R_slice HO132.out;(first|subst eo74|(injection eo74 with f1_ f2_ f3_;have f4_:=f1_.symm;have f5_:=f3_.symm;clear f1_ f2_ f3_;subst f4_;subst f5_))
          obtain⟨Ao75,co75,eo75⟩:=Kd.R_slice HO136.out;(first|subst eo75|(injection eo75 with f1_ f2_ f3_;have f4_:=f1_.symm;have f5_:=f3_.symm;clear f1_ f2_ f3_;subst f4_;subst f5_))
          refine hK.out _ _ ⟨(zF BK101.out 0).trans rfl,(zF BK102.out 0).trans rfl⟩ (fun hHeld=>?_);clear hK K;refine norm_ (a':=?_) ?_ ?_;rotate_left
          ·show Act.put _ (some 64) _=_
           simp only[Act.put,zH,zI,zJ,i64_w,i32_w];rfl
          refine one_ (i:=4) (N:=some 65) #[J,J,J,J,J,O,O,O,O,O] rfl rfl (one_of HT_.out (by kernel_rfl)) (by decide) (fun K hK=>?_);refine goes_ Try.func61 (by kernel_rfl) rfl #[.agg #[.int .i64 t129,.slice Ao74 t130.length co74],.agg #[.int .i64 t133,.slice Ao75 t134.length co75]] (by rfl) rfl rfl qG ?_;with_reducible refine(aA.calls kj3 t129 _ _ t130 t133 _ _ t134 t137 t140 _ ?side1 ?side2 ?side3 ?side4 A36.out).mono ?_
          (case side1=>repeat(first|exact(Kd.R_reads' HO132.out).2.2|(with_reducible refine Kd.C_alloc ?_ _)|(with_reducible refine Kd.C_drewN ?_ _)|(with_reducible refine Kd.C_drew ?_)))
          (case side2=>exact(Kd.R_reads' HO132.out).2.1)
          (case side3=>repeat(first|exact(Kd.R_reads' HO136.out).2.2|(with_reducible refine Kd.C_alloc ?_ _)|(with_reducible refine Kd.C_drewN ?_ _)|(with_reducible refine Kd.C_drew ?_)))
          (case side4=>exact(Kd.R_reads' HO136.out).2.1)
          rintro e w76 ⟨v138,rfl,ho0,hb⟩;refine⟨_,rfl,?_⟩;replace HO111:=zA (Kd.R_below (qR_ HO111.out) hb);replace HO116:=zA (Kd.S_below (qS_ HO116.out) hb);replace HO122:=zA (Kd.R_below (qR_ HO122.out) hb);replace HO127:=zA (Kd.R_below (qR_ HO127.out) hb);replace HO132:=zA (Kd.R_below (qR_ HO132.out) hb);replace HO136:=zA (Kd.R_below (qR_ HO136.out) hb);have HO139:=zA (Kd.R_lower ho0 (zW qB));replace BK101:=zA (qX BK101.out hb);replace BK102:=zA (qX BK102.out hb);replace BK118:=zA (qX BK118.out hb);replace BK124:=zA (qX BK124.out hb);replace HB:=zA (zV qB hb);(try clear hb);(try clear ho0);refine hK.out _ _ ⟨(zF BK101.out 0).trans rfl,(zF BK102.out 0).trans rfl⟩ (fun hHeld=>?_);clear hK K;refine norm_ (a':=?_) ?_ ?_;rotate_left
          ·show Act.put _ (some 65) _=_
           simp only[Act.put,zH,zI,zJ,i64_w,i32_w];rfl
          refine pure_ (i:=5) (N:=some 60) #[J,J,J,J,J,J,O,O,O,O] rfl rfl (any_of HT_.out (by kernel_rfl)) (fun _ _ _ h=>h) (Or.inl ⟨by rfl,qy⟩) qz ?_;refine pure_ (i:=6) (N:=some 66) #[J,J,J,J,J,J,J,O,O,O] rfl rfl (any_of HT_.out (by kernel_rfl)) (fun _ _ _ h=>h) (Or.inl ⟨by rfl,qy⟩) qz ?_;refine pure_ (i:=7) (N:=some 67) #[J,J,J,J,J,J,J,J,O,O] rfl rfl (any_of HT_.out (by kernel_rfl)) (fun _ _ _ h=>h) (Or.inl ⟨by rfl,qy⟩) qz ?_;refine pure_ (i:=8) (N:=some 17) #[J,J,J,J,J,J,J,J,J,O] rfl rfl (any_of HT_.out (by kernel_rfl)) (fun _ _ _ h=>h) (Or.inl ⟨by rfl,qy⟩) qz ?_;refine pure_ (i:=9) (N:=some 18) #[J,J,J,J,J,J,J,J,J,J] rfl rfl (any_of HT_.out (by kernel_rfl)) (fun _ _ _ h=>h) (Or.inl ⟨by rfl,qy⟩) qz ?_;refine done_ (done_of HT_.out (by kernel_rfl)) ?_;have hcz77_0:w76.cell? ⟨gb118,0,none⟩=some (.slice Ao57 t114.length co57):=(zF BK118.out 0).trans rfl;have hfz77_0:=zG BK118.out 0;obtain⟨_,_,_,_⟩:=qc2f BK124.out;try go_wp2_with (first|(go_at_call 54;(with_reducible refine(bU.calls kj3 _ _ t114 t119 _ _ t120 true _ ?side1 ?side2 ?side3 ?side4 A39.out).mono ?_);(case side1=>repeat(first|exact(Kd.S_reads' HO116.out).2.2|(with_reducible refine Kd.C_alloc ?_ _)|(with_reducible refine Kd.C_drewN ?_ _)|(with_reducible refine Kd.C_drew ?_)));(case side2=>exact(Kd.S_reads' HO116.out).2.1);(case side3=>repeat(first|exact(Kd.R_reads' HO122.out).2.2|(with_reducible refine Kd.C_alloc ?_ _)|(with_reducible refine Kd.C_drewN ?_ _)|(with_reducible refine Kd.C_drew ?_)));(case side4=>exact(Kd.R_reads' HO122.out).2.1);rintro e w79 ⟨rfl,hb⟩;replace HO111:=zA (Kd.R_below (qR_ HO111.out) hb);replace HO116:=zA (Kd.S_below (qS_ HO116.out) hb);replace HO122:=zA (Kd.R_below (qR_ HO122.out) hb);replace HO127:=zA (Kd.R_below (qR_ HO127.out) hb);replace HO132:=zA (Kd.R_below (qR_ HO132.out) hb);replace HO136:=zA (Kd.R_below (qR_ HO136.out) hb);replace HO139:=zA (Kd.R_below (qR_ HO139.out) hb);replace BK101:=zA (qX BK101.out hb);replace BK102:=zA (qX BK102.out hb);replace BK118:=zA (qX BK118.out hb);replace BK124:=zA (qX BK124.out hb);replace HB:=zA (zV qB hb);(try clear hb);obtain⟨Ao80,co80,eo80⟩:=Kd.R_slice HO127.out;subst eo80)|(go_at_call 47;(with_reducible refine(aY.calls kj3 _ _ t125 t142 _ ?side1 ?side2 A42.out).mono ?_);(case side1=>repeat(first|exact(Kd.R_reads' HO127.out).2.2|(with_reducible refine Kd.C_alloc ?_ _)|(with_reducible refine Kd.C_drewN ?_ _)|(with_reducible refine Kd.C_drew ?_)));(case side2=>exact(Kd.R_reads' HO127.out).2.1);rintro e w81 ⟨v143,rfl,ho0,hb⟩;replace HO111:=zA (Kd.R_below (qR_ HO111.out) hb);replace HO116:=zA (Kd.S_below (qS_ HO116.out) hb);replace HO122:=zA (Kd.R_below (qR_ HO122.out) hb);replace HO127:=zA (Kd.R_below (qR_ HO127.out) hb);replace HO132:=zA (Kd.R_below (qR_ HO132.out) hb);replace HO136:=zA (Kd.R_below (qR_ HO136.out) hb);have HO144:=zA (Kd.R_lower (Kd.R_new' ho0 (Kd.R_lt (qR_ HO139.out))) (zW qB));replace HO139:=zA (Kd.R_elder' (qR_ HO139.out) (Kd.R_base ho0) hb);replace BK101:=zA (qX BK101.out hb);replace BK102:=zA (qX BK102.out hb);replace BK118:=zA (qX BK118.out hb);replace BK124:=zA (qX BK124.out hb);replace HB:=zA (zV qB hb);(try clear hb);(try clear ho0);obtain⟨Ao82,co82,eo82⟩:=Kd.R_slice HO144.out;subst eo82;obtain⟨Ao83,co83,eo83⟩:=Kd.R_slice HO139.out;subst eo83)|(go_at_call 55;(with_reducible refine(bA.calls kj3 _ _ t142 _ _ t137 true _ ?side1 ?side2 ?side3 ?side4 A43.out).mono ?_);(case side1=>repeat(first|exact(Kd.R_reads' HO144.out).2.2|(with_reducible refine Kd.C_alloc ?_ _)|(with_reducible refine Kd.C_drewN ?_ _)|(with_reducible refine Kd.C_drew ?_)));(case side2=>exact(Kd.R_reads' HO144.out).2.1);(case side3=>repeat(first|exact(Kd.R_reads' HO139.out).2.2|(with_reducible refine Kd.C_alloc ?_ _)|(with_reducible refine Kd.C_drewN ?_ _)|(with_reducible refine Kd.C_drew ?_)));(case side4=>exact(Kd.R_reads' HO139.out).2.1);rintro e w' ⟨rfl,⟨nd,rfl⟩⟩)|(go_at_call 43;(with_reducible refine(bF.calls true _ A46.out).mono ?_);rintro e w84 ⟨rfl,hb⟩;replace HO111:=zA (Kd.R_below (qR_ HO111.out) hb);replace HO116:=zA (Kd.S_below (qS_ HO116.out) hb);replace HO122:=zA (Kd.R_below (qR_ HO122.out) hb);replace HO127:=zA (Kd.R_below (qR_ HO127.out) hb);replace HO132:=zA (Kd.R_below (qR_ HO132.out) hb);replace HO136:=zA (Kd.R_below (qR_ HO136.out) hb);replace HO139:=zA (Kd.R_below (qR_ HO139.out) hb);replace HO144:=zA (Kd.R_below (qR_ HO144.out) hb);replace BK101:=zA (qX BK101.out hb);replace BK102:=zA (qX BK102.out hb);replace BK118:=zA (qX BK118.out hb);replace BK124:=zA (qX BK124.out hb);replace HB:=zA (zV qB hb);(try clear hb)))
          go_ret;exact⟨qE,qB⟩
         replace c47:=Bool.eq_false_iff.mpr c47;subst c47;have H1:(some false)=some true:=by first|(rw[if_neg (show ¬ (false=true) by decide)] at H;exact H)|rfl
         clear H;have H:=H1;clear H1;exact absurd H (by simp)
        rw[if_neg c45] at H;have c45b0:(t128==t140)=false:=beq_eq_false_iff_ne.mpr c45;have c45b1:(t128 != t140)=true:=bne_iff_ne.mpr c45;exact absurd H (by simp)
       replace c44:=Bool.eq_false_iff.mpr c44;subst c44;have H1:(some false)=some true:=by first|(rw[if_neg (show ¬ (false=true) by decide)] at H;exact H)|rfl
       clear H;have H:=H1;clear H1;exact absurd H (by simp)
      rw[if_neg c41] at H;have c41b0:(t117==t123)=false:=beq_eq_false_iff_ne.mpr c41;have c41b1:(t117 != t123)=true:=bne_iff_ne.mpr c41;exact absurd H (by simp)
     replace c40:=Bool.eq_false_iff.mpr c40;subst c40;have H1:(some false)=some true:=by first|(rw[if_neg (show ¬ (false=true) by decide)] at H;exact H)|rfl
     clear H;have H:=H1;clear H1;exact absurd H (by simp)
    rw[if_neg c38] at H;have c38b0:(t107==t113)=false:=beq_eq_false_iff_ne.mpr c38;have c38b1:(t107 != t113)=true:=bne_iff_ne.mpr c38;exact absurd H (by simp)
   rw[if_neg c37] at H;have c37b0:(t106.toList==t112.toList)=false:=beq_eq_false_iff_ne.mpr c37;have c37b1:(t106.toList != t112.toList)=true:=bne_iff_ne.mpr c37;exact absurd H (by simp)
def aH.Pure:Prop:= ∀ (l0_0:List (List (S164))) (l1_0:List (List (S164))) (a2:ByteArray),(l0_0.length≤maxLen∧∀ x ∈ l0_0,(x.length≤maxLen∧∀ y ∈ x,((Lit.int .i64 y.f0).wf=true∧y.f1.size≤maxLen)))→(l1_0.length≤maxLen∧∀ x ∈ l1_0,(x.length≤maxLen∧∀ y ∈ x,((Lit.int .i64 y.f0).wf=true∧y.f1.size≤maxLen)))→a2.size≤maxLen→∃ k,aH.f k l0_0 l1_0 a2=some true
end Go.Proofs.Ytdpcgigjlcpofaa.F
set_option linter.unusedVariables false
namespace Go.Proofs.Ytdpcgigjlcpofaa.Q
open Go.RowKit Go.Proofs.YtdpcgigjlcpofaaW.PrintWords Go.Proofs.YtdpcgigjlcpofaaW.PrintLast Go.Proofs.YtdpcgigjlcpofaaW.PrintMore
theorem Ev.ite {α:Type} {c:Prop} [Decidable c] {a b:Nat→Option α} {r:α} (h1:c→Ev a r) (h2: ¬ c→Ev b r):Ev (fun k=>if c then a k else b k) r:=by
  by_cases h:c
  · simp only[if_pos h];exact h1 h
  simp only[if_neg h];exact h2 h
theorem Ev.pos {α:Type} {c:Prop} [Decidable c] {a b:Nat→Option α} {r:α} (h:c) (h1:Ev a r):Ev (fun k=>if c then a k else b k) r:=by
  simp only[if_pos h];exact h1
theorem Ev.neg {α:Type} {c:Prop} [Decidable c] {a b:Nat→Option α} {r:α} (h: ¬ c) (h1:Ev b r):Ev (fun k=>if c then a k else b k) r:=by
  simp only[if_neg h];exact h1
theorem Ev.ok {α:Type} {a b:α} (h:a=b):Ev (fun _=>some a) b:=⟨0,fun _ _=>by rw[h]⟩
theorem Ev.const {α:Type} {o:Option α} {r:α} (h:o=some r):Ev (fun _=>o) r:=⟨0,fun _ _=>h⟩
theorem Ev.bindc {α β:Type} {o:Option α} {f:Nat→α→Option β} {a:α} {r:β} (h:o=some a) (k:Ev (fun n=>f n a) r):Ev (fun n=>o.bind (f n)) r:=by
  subst h
  exact k
theorem Ev.eq {α:Type} {g:Nat→Option α} {a b:α} (h:Ev g a) (e:a=b):Ev g b:=e ▸ h
theorem wrap_eq {x:Int} (h0: -9223372036854775808≤x) (h1:x≤9223372036854775807):wrap64 x=x:=by
  unfold wrap64;omega
theorem u64_eq {x:Int} (h0:0≤x) (h1:x < 18446744073709551616):IntKind.u64.wrap x=x:=by
  simp[IntKind.wrap,IntKind.signed,IntKind.bits];omega
theorem countP_split {α:Type} {p:α→Bool} {l:List α} {n:Nat} (hn:n≤l.length) (h1: ∀ j (h:j < l.length),j < n→p l[j] =true) (h2: ∀ j (h:j < l.length),n≤j→p l[j] =false):l.countP p=n:=by
  have e:l=l.take n++l.drop n:=(List.take_append_drop n l).symm
  have a:(l.take n).countP p=(l.take n).length:=by
    rw[List.countP_eq_length]
    intro x hx
    obtain⟨j,hj,rfl⟩:=List.mem_iff_getElem.1 hx
    rw[List.length_take] at hj
    rw[List.getElem_take]
    exact h1 j (by omega) (by omega)
  have b:(l.drop n).countP p=0:=by
    rw[List.countP_eq_zero]
    intro x hx
    obtain⟨j,hj,rfl⟩:=List.mem_iff_getElem.1 hx
    rw[List.length_drop] at hj
    rw[List.getElem_drop,h2 (n+j) (by omega) (by omega)]
    simp
  rw[e,List.countP_append,a,b,List.length_take]
  omega
theorem idxOf_first {α:Type} [BEq α] [LawfulBEq α] {l:List α} {t:α} {i:Nat} (h:i < l.length) (he:l[i] =t) (h1: ∀ j (h:j < l.length),j < i→l[j]≠t):l.idxOf t=i:=by
  unfold List.idxOf
  rw[List.findIdx_eq h]
  exact⟨by simp[he],fun j hj=>by simpa using h1 j (by omega) hj⟩
theorem rd_nat {l:List Int} {i:Nat} (h:i < l.length):rd l (i:Int)=l[i] :=by
  unfold rd;simp[List.getD_eq_getElem?_getD,h]
theorem drop_cons {α:Type} {l:List α} {i:Nat} (h:i < l.length):l.drop i=l[i] ::l.drop (i+1):=List.drop_eq_getElem_cons h
theorem bytes_ext {a b:ByteArray} :a.toList=b.toList↔a=b:=by
  constructor
  · intro h
    rw[ByteArray.toList_eq,ByteArray.toList_eq] at h
    cases a;cases b
    simpa [Array.toList_inj] using h
  rintro rfl;rfl
end Go.Proofs.Ytdpcgigjlcpofaa.Q
set_option linter.unusedVariables false
namespace Go.Proofs.Ytdpcgigjlcpofaa.Q
open Go.RowKit Go.Proofs.Ytdpcgigjlcpofaa.F Go.Proofs.YtdpcgigjlcpofaaW.PrintWords Go.Proofs.YtdpcgigjlcpofaaW.PrintLast Go.Proofs.YtdpcgigjlcpofaaW.PrintMore
def rising (last:Int):List Int→Int
  | [] =>0
  |x::xs=>if x < 1∨x > 999999 then 31 else if x≤last then 32 else rising x xs
theorem rows_Rising_l0 {l:List Int} (hl:l.length < 9223372036854775807) (d:Nat): ∀ (i:Nat) (last:Int),l.length - i=d→i≤l.length→
    Ev (fun k=>bH.l0 k last l (l.length:Int) (i:Int)) (rising last (l.drop i)):=by
  induction d with
  |zero=>
    intro i last hd hi
    refine Ev.step (fun k=>by simp only[bH.l0];rfl) ?_
    refine Ev.neg (by omega) (Ev.ok ?_)
    rw[List.drop_eq_nil_of_le (by omega)];rfl
  |succ d ih=>
    intro i last hd hi
    have h:i < l.length:=by omega
    refine Ev.step (fun k=>by simp only[bH.l0];rfl) ?_
    refine Ev.pos (by omega) (Ev.pos (by omega) (Ev.pos (by omega) ?_))
    rw[drop_cons h,rd_nat h]
    have hj: ∀ b:Bool,(b=true↔(l[i] < 1∨l[i] > 999999))→Ev (fun k=>bH.j1 k last l[i] l (l.length:Int) (i:Int) b) (rising last (l[i] ::l.drop (i+1))):=by
      intro b hb
      refine Ev.step (fun k=>by simp only[bH.j1];rfl) ?_
      simp only[rising]
      refine Ev.ite (fun h1=>?_) (fun h1=>?_)
      · rw[if_pos (hb.1 h1)];exact Ev.ok rfl
      rw[if_neg (fun h2=>h1 (hb.2 h2))]
      refine Ev.ite (fun h2=>?_) (fun h2=>?_)
      · rw[if_pos h2];exact Ev.ok rfl
      rw[if_neg h2,wrap_eq (by omega) (by omega)]
      exact ih (i+1) l[i] (by omega) (by omega)
    refine Ev.ite (fun h1=>hj true (by simp[h1])) (fun h1=>hj _ (by simp;omega))
theorem rows_Rising_f {l:List Int} (hl:l.length < 9223372036854775807):Ev (fun k=>bH.f k l) (rising 0 l):=by
  unfold bH.f
  exact rows_Rising_l0 hl l.length 0 0 (by omega) (by omega)
def find (l:List Int) (id:Int):Int × Bool:=if id ∈ l then((l.idxOf id:Int),true)else(if rising 0 l=0 then(l.countP (fun x=>decide (x < id)):Int)else l.length,false)
theorem rising_zero {last:Int} {l:List Int} (h:rising last l=0):(∀ x ∈ l,last < x∧1≤x∧x≤999999)∧l.Pairwise (· < ·):=by
  induction l generalizing last with
  |nil=>simp
  |cons x xs ih=>
    simp only[rising] at h
    split at h
    · cases h
    split at h
    · cases h
    obtain⟨a,b⟩:=ih h
    refine⟨fun y hy=>?_,List.pairwise_cons.2 ⟨fun y hy=> (a y hy).1,b⟩⟩
    rcases List.mem_cons.1 hy with rfl|hy
    · omega
    have:=a y hy;omega
theorem sorted_get {l:List Int} (h:l.Pairwise (· < ·)) {i j:Nat} (hj:j < l.length) (hij:i < j):l[i]'(by omega) < l[j] :=List.pairwise_iff_getElem.1 h i j _ hj hij
theorem bs_l0 {l:List Int} {t:Int} (hl:l.length < 4611686018427387904) (hs:l.Pairwise (· < ·)) (d:Nat): ∀ (lo hi:Nat),hi - lo=d→lo≤hi→hi≤l.length→
    (∀ j (h:j < l.length),j < lo→l[j] < t)→(∀ j (h:j < l.length),hi≤j→¬ l[j] < t)→
    Ev (fun k=>aK.l0 k l t (l.length:Int) (lo:Int) (hi:Int)) ((l.countP (fun x=>decide (x < t)):Int),decide (t ∈ l)):=by
  induction d using Nat.strongRecOn with
  |_ d ih=>
    intro lo hi hd hlo hhi h1 h2
    refine Ev.step (fun k=>by simp only[aK.l0];rfl) ?_
    by_cases hlt:lo < hi
    · have hw:wrap64 ((IntKind.u64.wrap (wrap64 ((lo:Int)+(hi:Int)))) / 2)=(((lo+hi) / 2:Nat):Int):=by
        rw[wrap_eq (x:=(lo:Int)+(hi:Int)) (by omega) (by omega),u64_eq (x:=(lo:Int)+(hi:Int)) (by omega) (by omega),wrap_eq (x:=((lo:Int)+(hi:Int)) / 2) (by omega) (by omega)];omega
      have hm:(lo+hi) / 2 < l.length:=by omega
      rw[hw]
      refine Ev.pos (by omega) (Ev.pos (by omega) (Ev.pos (by omega) ?_))
      rw[rd_nat hm]
      refine Ev.bindc (a:=decide (l[(lo+hi) / 2] < t)) (by simp[cU.f,cI.f]) ?_
      refine Ev.ite (fun hc=>?_) (fun hc=>?_)
      · have hc':l[(lo+hi) / 2] < t:=by simpa using hc
        rw[wrap_eq (by omega) (by omega)]
        refine ih (hi - ((lo+hi) / 2+1)) (by omega) ((lo+hi) / 2+1) hi rfl (by omega) hhi (fun j hj hjl=>?_) h2
        rcases Nat.lt_or_ge j ((lo+hi) / 2)with hlt2|hge
        · have:=sorted_get hs hm hlt2;omega
        have:j=(lo+hi) / 2:=by omega
        subst this;exact hc'
      have hc': ¬ l[(lo+hi) / 2] < t:=by simpa using hc
      refine ih ((lo+hi) / 2 - lo) (by omega) lo ((lo+hi) / 2) rfl (by omega) (by omega) h1 (fun j hj hjl=>?_)
      rcases Nat.lt_or_ge ((lo+hi) / 2) j with hlt2|hge
      · have:=sorted_get hs hj hlt2;omega
      have:j=(lo+hi) / 2:=by omega
      subst this;exact hc'
    have he:lo=hi:=by omega
    subst he
    have hcount:l.countP (fun x=>decide (x < t))=lo:=countP_split hhi (fun j hj hjl=>by simpa using h1 j hj hjl) (fun j hj hjl=>by simpa using h2 j hj hjl)
    rw[hcount]
    refine Ev.neg (by omega) ?_
    refine Ev.ite (fun hc=>?_) (fun hc=>?_)
    · have hlo':lo < l.length:=by omega
      refine Ev.pos (by omega) (Ev.pos (by omega) ?_)
      rw[rd_nat hlo']
      refine Ev.ite (fun he=>?_) (fun he=>?_)
      · refine Ev.ok ?_
        have:t ∈ l:=he ▸ List.getElem_mem hlo'
        simp[this]
      refine Ev.bindc (a:=false) (by simp[cL.f]) ?_
      refine Ev.neg (by simp) (Ev.ok ?_)
      have: ¬ t ∈ l:=by
        intro hmem
        obtain⟨j,hj,hjt⟩:=List.mem_iff_getElem.1 hmem
        rcases Nat.lt_trichotomy j lo with h|h|h
        · have:=h1 j hj h;omega
        · subst h;exact he hjt
        have:=sorted_get hs hj h;have:=h2 lo hlo' (Nat.le_refl _);omega
      simp[this]
    refine Ev.ok ?_
    have: ¬ t ∈ l:=by
      intro hmem
      obtain⟨j,hj,hjt⟩:=List.mem_iff_getElem.1 hmem
      have:=h1 j hj (by omega);omega
    simp[this]
theorem bs_f {l:List Int} {t:Int} (hl:l.length < 4611686018427387904) (hs:l.Pairwise (· < ·)):
    Ev (fun k=>aK.f k l t) ((l.countP (fun x=>decide (x < t)):Int),decide (t ∈ l)):=by
  unfold aK.f
  exact bs_l0 hl hs l.length 0 l.length (by omega) (by omega) (by omega) (fun j hj h=>by omega) (fun j hj h=>by omega)
theorem index_l0 {l:List Int} {t:Int} (hl:l.length < 9223372036854775807) (d:Nat): ∀ (i:Nat),l.length - i=d→i≤l.length→(∀ j (h:j < l.length),j < i→l[j]≠t)→
    Ev (fun k=>bC.l0 k l t (l.length:Int) (i:Int)) (if t ∈ l then(l.idxOf t:Int)else -1):=by
  induction d with
  |zero=>
    intro i hd hi h1
    refine Ev.step (fun k=>by simp only[bC.l0];rfl) ?_
    refine Ev.neg (by omega) (Ev.ok ?_)
    have: ¬ t ∈ l:=by
      intro hmem
      obtain⟨j,hj,hjt⟩:=List.mem_iff_getElem.1 hmem
      exact h1 j hj (by omega) hjt
    rw[if_neg this]
  |succ d ih=>
    intro i hd hi h1
    have h:i < l.length:=by omega
    refine Ev.step (fun k=>by simp only[bC.l0];rfl) ?_
    refine Ev.pos (by omega) (Ev.pos (by omega) (Ev.pos (by omega) ?_))
    rw[rd_nat h]
    refine Ev.ite (fun he=>Ev.ok ?_) (fun he=>?_)
    · rw[if_pos (he ▸ List.getElem_mem h)]
      rw[idxOf_first h he.symm h1]
    rw[wrap_eq (by omega) (by omega)]
    exact ih (i+1) (by omega) (by omega) (fun j hj hjl=>by
      rcases Nat.lt_or_ge j i with h2|h2
      · exact h1 j hj h2
      have:j=i:=by omega
      subst this;exact fun e=>he e.symm)
theorem index_f {l:List Int} {t:Int} (hl:l.length < 9223372036854775807):Ev (fun k=>bC.f k l t) (if t ∈ l then(l.idxOf t:Int)else -1):=by
  unfold bC.f
  exact index_l0 hl l.length 0 (by omega) (by omega) (fun j hj h=>by omega)
theorem idxOf_sorted {l:List Int} {t:Int} (hs:l.Pairwise (· < ·)) (hm:t ∈ l):l.idxOf t=l.countP (fun x=>decide (x < t)):=by
  obtain⟨i,hi,he⟩:=List.mem_iff_getElem.1 hm
  have h1: ∀ j (h:j < l.length),j < i→l[j] < t:=fun j hj h=>he ▸ sorted_get hs hi h
  rw[idxOf_first hi he (fun j hj h=>by have:=h1 j hj h;omega)]
  refine(countP_split (by omega) (fun j hj h=>by simpa using h1 j hj h) (fun j hj h=>?_)).symm
  have:t≤l[j] :=by
    rcases Nat.lt_or_ge i j with h2|h2
    · have:=sorted_get hs hj h2;omega
    have:j=i:=by omega
    subst this;omega
  simpa using this
theorem rows_Find_f {l:List Int} {id:Int} (hl:l.length < 4611686018427387904):Ev (fun k=>cO.f k l id) (find l id):=by
  unfold cO.f find
  refine Ev.bind (rows_Rising_f (by omega)) (Ev.ite (fun h=>?_) (fun h=>?_))
  · have hs:=(rising_zero h).2
    refine Ev.bind (bs_f (by omega) hs) (Ev.ok ?_)
    by_cases hm:id ∈ l
    · simp[hm,idxOf_sorted hs hm]
    simp[hm,h]
  refine Ev.bind (index_f (by omega)) ?_
  by_cases hm:id ∈ l
  · rw[if_pos hm,if_pos hm]
    refine Ev.pos (by omega) (Ev.ok rfl)
  rw[if_neg hm,if_neg hm,if_neg h]
  exact Ev.neg (by omega) (Ev.ok rfl)
end Go.Proofs.Ytdpcgigjlcpofaa.Q
set_option linter.unusedVariables false
set_option linter.unusedSimpArgs false
namespace Go.Proofs.Ytdpcgigjlcpofaa.Q
open Go.RowKit Go.Proofs.Ytdpcgigjlcpofaa.F Go.Proofs.YtdpcgigjlcpofaaX Go.Proofs.YtdpcgigjlcpofaaW.PrintWords Go.Proofs.YtdpcgigjlcpofaaW.PrintLast Go.Proofs.YtdpcgigjlcpofaaW.PrintMore
abbrev RwT:=S164
abbrev CeT:=S169
theorem ce_ext {p q:CeT} (h0:p.f0=q.f0) (h1:p.f1=q.f1) (h2:p.f2=q.f2):p=q:=by
  cases p;cases q
  simp only at h0 h1 h2
  rw[h0,h1,h2]
def idsT (l:List RwT):List Int:=l.map fun r=>r.f0
def ltR (p q:RwT):Prop:=p.f0 < q.f0
def sortT (l:List RwT):Prop:=l.Pairwise ltR
theorem mem_ids {l:List RwT} {id:Int} :id ∈ idsT l↔ ∃ r ∈ l,r.f0=id:=by unfold idsT;rw[List.mem_map]
theorem sort_one {l:List RwT} (h:sortT l) {p q:RwT} (hp:p ∈ l) (hq:q ∈ l) (e:p.f0=q.f0):p=q:=by
  obtain⟨i,hi,rfl⟩:=List.mem_iff_getElem.1 hp
  obtain⟨j,hj,rfl⟩:=List.mem_iff_getElem.1 hq
  rcases Nat.lt_trichotomy i j with g|g|g
  · have:l[i].f0 < l[j].f0:=List.pairwise_iff_getElem.1 h i j hi hj g
    omega
  · subst g;rfl
  have:l[j].f0 < l[i].f0:=List.pairwise_iff_getElem.1 h j i hj hi g
  omega
def posT (l:List RwT) (id:Int):Nat:=(idsT l).countP fun x=>decide (x < id)
theorem sort_ids {l:List RwT} :sortT l↔(idsT l).Pairwise (· < ·):=by
  unfold sortT idsT
  rw[List.pairwise_map]
  exact Iff.rfl
theorem pos_of {A B:List RwT} {id:Int} (hA: ∀ r ∈ A,r.f0 < id) (hB: ∀ r ∈ B,id≤r.f0):posT (A++B) id=A.length:=by
  unfold posT idsT
  rw[List.map_append,List.countP_append]
  have a:(A.map fun r:RwT=>r.f0).countP (fun x=>decide (x < id))=A.length:=by
    have:=List.countP_eq_length (p:=fun x=>decide (x < id)) (l:=A.map fun r:RwT=>r.f0)
    rw[this.2 (fun x hx=>?_),List.length_map]
    obtain⟨r,hr,rfl⟩:=List.mem_map.1 hx
    exact decide_eq_true (hA r hr)
  have b:(B.map fun r:RwT=>r.f0).countP (fun x=>decide (x < id))=0:=by
    rw[List.countP_eq_zero]
    intro x hx
    obtain⟨r,hr,rfl⟩:=List.mem_map.1 hx
    have:=hB r hr
    simp
    omega
  rw[a,b]
  omega
theorem split_T: ∀ {l:List RwT} (h:sortT l) (id:Int),∃ A B,l=A++B∧(∀ r ∈ A,r.f0 < id)∧∀ r ∈ B,id≤r.f0
  | [],_,_=> ⟨[],[],rfl,by simp,by simp⟩
  |p::l,h,id=>by
    obtain⟨h1,h2⟩:=List.pairwise_cons.1 h
    by_cases c:p.f0 < id
    · obtain⟨A,B,rfl,hA,hB⟩:=split_T (l:=l) h2 id
      refine⟨p::A,B,rfl,fun r hr=>?_,hB⟩
      rcases List.mem_cons.1 hr with rfl|hr
      · exact c
      exact hA r hr
    refine⟨[],p::l,rfl,by simp,fun r hr=>?_⟩
    rcases List.mem_cons.1 hr with rfl|hr
    · omega
    have:p.f0 < r.f0:=h1 r hr
    omega
theorem split_in {l:List RwT} (h:sortT l) {id:Int} (hm:id ∈ idsT l): ∃ A r B,l=A++r::B∧r.f0=id∧posT l id=A.length∧(∀ r ∈ A,r.f0 < id)∧∀ r ∈ B,id < r.f0:=by
  obtain⟨A,B,rfl,hA,hB⟩:=split_T h id
  have hp:=pos_of hA hB
  obtain⟨r,hr,e⟩:=mem_ids.1 hm
  cases B with
  |nil=>
    rw[List.append_nil] at hr
    have:=hA r hr
    omega
  |cons p B=>
    have h2:=List.pairwise_cons.1 (List.pairwise_append.1 h).2.1
    have e2:p.f0=id:=by
      rcases List.mem_append.1 hr with hr|hr
      · have:=hA r hr
        omega
      rcases List.mem_cons.1 hr with rfl|hr
      · exact e
      have g1:p.f0 < r.f0:=h2.1 r hr
      have g2:=hB p List.mem_cons_self
      omega
    exact⟨A,p,B,rfl,e2,hp,hA,fun r hr=>by have:p.f0 < r.f0:=h2.1 r hr;omega⟩
def okT (l:List RwT):Prop:=l.length≤60∧rising 0 (idsT l)=0∧∀ r ∈ l,r.f1.size≤200
theorem okT.sort {l:List RwT} (h:okT l):sortT l:=sort_ids.2 (rising_zero h.2.1).2
theorem okT.ids {l:List RwT} (h:okT l) {r:RwT} (hr:r ∈ l):1≤r.f0∧r.f0≤999999:=by
  have:=(rising_zero h.2.1).1 r.f0 (mem_ids.2 ⟨r,hr,rfl⟩)
  omega
def cellsF (i:Int):List (List RwT)→List CeT
  | [] => []
  |l::s=>l.map (fun r=> (⟨i,r.f0,r.f1⟩:CeT))++cellsF (i+1) s
def ltC (p q:CeT):Prop:=p.f0 < q.f0∨(p.f0=q.f0∧p.f1 < q.f1)
def sortC (l:List CeT):Prop:=l.Pairwise ltC
theorem mem_cells {c:CeT} : ∀ (s:List (List RwT)) (i:Int),c ∈ cellsF i s↔ ∃ (j:Nat) (h:j < s.length),c.f0=i+j∧(⟨c.f1,c.f2⟩:RwT) ∈ s[j]
  | [],i=>by simp[cellsF]
  |l::s,i=>by
    simp only[cellsF]
    rw[List.mem_append,mem_cells s (i+1),List.mem_map]
    constructor
    · rintro(⟨r,hr,rfl⟩|⟨j,h,h1,h2⟩)
      · exact⟨0,by simp,by simp,by simpa using hr⟩
      exact⟨j+1,by simp;omega,by omega,by simpa using h2⟩
    rintro⟨j,h,h1,h2⟩
    cases j with
    |zero=>exact .inl ⟨⟨c.f1,c.f2⟩,by simpa using h2,ce_ext (by simp only;omega) rfl rfl⟩
    |succ j=>exact .inr ⟨j,by simp at h;omega,by omega,by simpa using h2⟩
theorem sort_cells: ∀ (s:List (List RwT)) (i:Int),(∀ l ∈ s,sortT l)→sortC (cellsF i s)
  | [],i,_=>List.Pairwise.nil
  |l::s,i,h=>by
    simp only[cellsF]
    refine List.pairwise_append.2 ⟨?_,sort_cells s (i+1) fun x hx=>h x (List.mem_cons_of_mem _ hx),fun x hx y hy=>?_⟩
    · rw[List.pairwise_map]
      exact(h l List.mem_cons_self).imp fun g=> .inr ⟨rfl,g⟩
    obtain⟨r,_,rfl⟩:=List.mem_map.1 hx
    obtain⟨j,_,e,_⟩:=(mem_cells s (i+1)).1 hy
    exact .inl (by simp only;omega)
theorem cells_append: ∀ (A B:List (List RwT)) (i:Int),cellsF i (A++B)=cellsF i A++cellsF (i+A.length) B
  | [],B,i=>by simp[cellsF]
  |l::A,B,i=>by
    simp only[List.cons_append,cellsF,cells_append A B (i+1),List.append_assoc,List.length_cons]
    rw[show i+1+(A.length:Int)=i+((A.length+1:Nat):Int) by omega]
def okS (s:List (List RwT)):Prop:=s.length≤8∧∀ l ∈ s,okT l
theorem okS.sort {s:List (List RwT)} (h:okS s):sortC (cellsF 0 s):=sort_cells s 0 fun l hl=> (h.2 l hl).sort
structure OpX where
  tb:Int
  k:Int
  id:Int
  tx:ByteArray
def textT (l:List RwT) (id:Int):ByteArray:=match l.find? (fun r=>r.f0==id)with|some r=>r.f1|none=> ⟨#[]⟩
theorem text_in {l:List RwT} (h:sortT l) {r:RwT} (hr:r ∈ l):textT l r.f0=r.f1:=by
  unfold textT
  cases e:l.find? (fun x=>x.f0==r.f0)with
  |none=>
    have:=List.find?_eq_none.1 e r hr
    simp at this
  |some x=>
    have h1:=List.mem_of_find?_eq_some e
    have h2:=List.find?_some e
    have h3:x.f0=r.f0:=by simpa using h2
    rw[sort_one h h1 hr h3]
end Go.Proofs.Ytdpcgigjlcpofaa.Q
