-- by prune.py (own program),out of the print
import Derived.Test.YtefhljhpcpajgaaProg
import Derived.Below
import Derived.Deep.Draws
import Derived.Deep.AppendLies
import Derived.Maps.AppendAt
import Derived.OwnWalk
import Derived.Laws.BytesArg
import Derived.Laws.MakeOwn
import Derived.Laws.OwnMore
import Derived.Deep.OwnRows
import Derived.Tactics
import Derived.Lib.ConvBytes
import Derived.Laws.Slices
import Derived.WalkKit
import Derived.KernelRfl
import Derived.RowKit3
import Derived.Deep.LoopGhost
import Derived.Deep.QuietTactic
import Derived.BigQuiet
import Derived.WideLaws
import Derived.Deep.DeepCutAuto
import Derived.Deep.CutBlock
import Derived.Deep.RegionHeld3
import Derived.Laws.Rows
import Derived.Lib.AppendStr
import Derived.ArgAppend
import Derived.Laws.IdiomCopy
import Derived.OrdersHeld
import Derived.Laws.BitsLemmas
import Derived.RowKit
import Derived.Laws.StructEq
import Derived.Deep.RegionLawGrows
import Derived.Lib.SliceRun
import Derived.Maps.Own
import Derived.Maps.OwnOps
import Derived.Maps.Views
import Derived.StringKeys
import Derived.Carry
import Derived.Lib.OthersKept
import Derived.Lib.RuneCount
import Derived.Laws.Cover4
import Derived.Outline
import Derived.Shelf.Small.Bits
import Derived.Shelf.Utf8.RuneCount
import Derived.Shelf.Strconv.Itoa0
import Derived.Shelf.Strings.Prefix
import Derived.Shelf.Strings.RuneCount
import Derived.Shelf.Bits.Mul64
import Derived.Ground.Names2Prog
import Derived.Shelf.Slices.SearchI
import Derived.Ground.SlsfProg
import Derived.Shelf.SlSortCmp.Insertion
import Derived.Shelf.SlSortCmp.Insertion1
import Derived.Sort.LotA
import Derived.Sort.OwnSortedInts
import Derived.WalkMore
import Derived.Test.YtefhljhpcpajgaaZOrderMakes4
set_option maxHeartbeats 8000000
set_option maxRecDepth 100000
namespace Go.Proofs.Ytefhljhpcpajgaa.F
open Go.RowKit Go.Proofs.YtefhljhpcpajgaaX Go.Proofs.YtefhljhpcpajgaaW.PrintWords Go.Proofs.YtefhljhpcpajgaaW.PrintLast Go.Proofs.YtefhljhpcpajgaaW.PrintMore
attribute [local go_sem] max2_int min2_int max_two min_two max_three min_three max_four min_four
attribute [local go_sem high] str_geq str_leq str_gtr
set_option linter.unusedVariables false
set_option linter.unusedSimpArgs false
def bS.j0:Nat→Int→Int→List (S71)→Int→Int→Bool→Option (Int × Int × (List (S71)) × Int)
  |0,_,_,_,_,_,_=>none
  |k+1,x0,x1,x2,x3,x4,x26=>if x26=true then(some (0,0,([] :List (S71)),2))else((bA.f k x2 x3 x4).bind fun bt103=> (if bt103.2=0 then((cN.f bt103.1).bind fun t107=> (if t107=true then(some (0,0,([] :List (S71)),32))else((cM.f k bt103.1).bind fun bt108=> (if bt108.2=0 then(some (x0,x1,bt103.1,0))else(some (0,0,([] :List (S71)),8))))))else(some (0,0,([] :List (S71)),bt103.2))))
def bS.f (k:Nat) (a0:Int) (a1:Int) (l2:List (S71)) (a3:Int) (a4:Int):Option (Int × Int × (List (S71)) × Int):=if a0 < 1 then(bS.j0 k a0 a1 l2 a3 a4 true)else(if a0 > 999999 then(bS.j0 k a0 a1 l2 a3 a4 true)else((cQ.f a1).bind fun t102=> (bS.j0 k a0 a1 l2 a3 a4 (!t102))))
theorem bS.mono_l: ∀ k,(∀ y0 y1 y2 y3 y4 y5,LeO (bS.j0 k y0 y1 y2 y3 y4 y5) (bS.j0 (k+1) y0 y1 y2 y3 y4 y5))
  |0=>fun _ _ _ _ _ _ r h=>by simp[bS.j0] at h
  |k+1=>by
    have ih0:=bS.mono_l k
    intro y0 y1 y2 y3 y4 y5
    unfold bS.j0
    repeat' (with_reducible first|exact ih0 _ _ _ _ _ _|exact bA.mono _ _ _ _|exact cM.mono _ _|exact LeO.refl _|exact LeO.none _|refine LeO.ite ?_ ?_|refine LeO.bind ?_ (fun _=>?_))
theorem bS.mono: ∀ a0 a1 a2 a3 a4 k,LeO (bS.f k a0 a1 a2 a3 a4) (bS.f (k+1) a0 a1 a2 a3 a4):=by
  intro a0 a1 a2 a3 a4 k
  have ih0:=bS.mono_l k
  unfold bS.f
  repeat' (with_reducible first|exact ih0 _ _ _ _ _ _|exact bA.mono _ _ _ _|exact cM.mono _ _|exact LeO.refl _|exact LeO.none _|refine LeO.ite ?_ ?_|refine LeO.bind ?_ (fun _=>?_))
theorem bS.calls (k:Nat) (a0:Int) (a1:Int) (P2_:Nat→Prop) (A2:Option Addr) (c2:Nat) (l2:List (S71)) (a3:Int) (a4:Int) (r1:Int) (r2:Int) (r3:List (S71)) (r4:Int) (w:World) (hs2:Kd.V k71 71 w w.heap.size (fun k_=>P2_ k_) (.slice A2 l2.length c2) l2) (h:bS.f k a0 a1 l2 a3 a4=some (r1,r2,r3,r4)):
  Calls Try.prog 83 #[.int .i64 a0,.int .i64 a1,.slice A2 l2.length c2,.int .i64 a3,.int .i64 a4] w fun e w'=> ∃ v2_:Value,e= .returned (.tuple #[.agg #[.int .i64 r1,.int .i64 r2,v2_],.int .i64 r4])∧Kd.N k71 71 w' w.heap.size (fun k_=> (P2_ k_∨w.heap.size≤k_)) v2_ r3∧Below w.heap.size w w':=by
 have hu99:=Try.underlying99
 have HO2:=zA (show Kd.V k71 71 w w.heap.size (fun k_=> (P2_ k_∨w.heap.size≤k_)) (.slice A2 l2.length c2) l2 from Kd.V_mono hs2 (fun k_ hk=> .inl hk))
 have HB:=zA (Below.refl w.heap.size w)
 have H:(if a0 < 1 then(bS.j0 k a0 a1 l2 a3 a4 true)else(if a0 > 999999 then(bS.j0 k a0 a1 l2 a3 a4 true)else((cQ.f a1).bind fun t102=> (bS.j0 k a0 a1 l2 a3 a4 (!t102)))))=some (r1,r2,r3,r4):=h
 clear h
 have HC6:=zA H
 clear H
 go_enter Try.func83,Try.ntmps83
 go_upto_region 1 with(first|((with_reducible refine gate_dst (N:=10) rfl ?_);refine box_event qr (N:=10) qr (cs:= #[.int .i64 0,.int .i64 0,.slice none 0 0]) (t:=99) qg ?_;intro gb101 hg w7 hbox hb;replace HO2:=zA (Kd.V_below (Kd.V_elderB (qV_ HO2.out) gb101 (Nat.le_of_eq hg.symm)) hb);have BK101:=zA (hbox);have GW101:=zA ((qS:w.heap.size≤gb101));have GE101:=zA ((qS:w.heap.size≤gb101));replace HB:=zA (zV qB hb);clear hb hbox hg))
 (try simp only[Act.put,zH,zI,zJ])
 go_cut[26] (fun v26 wc=> ∃ (kq:Nat) (x26_5:Bool),v26= .bool x26_5∧Aside0 (bS.j0 kq a0 a1 l2 a3 a4 x26_5=some (r1,r2,r3,r4))∧Aside0 (kq≤k)∧Aside0 (Kd.V k71 71 wc w.heap.size (fun k_=> (P2_ k_∨w.heap.size≤k_)∧k_≠gb101) (.slice A2 l2.length c2) l2)∧Aside0 (wc.heap[gb101]? =some (.cells #[.int .i64 0,.int .i64 0,(.slice none 0 0)] 99 (0,0)))∧Aside0 (Below w.heap.size w wc))
 case first=>
  have H:=HC6.out;clear HC6;by_cases c8:a0 < 1
  ·rw[if_pos c8] at H
   have c8b0:=zFq c8;clear c8;(first|rw[c8b0] |(simp only[i64_w,i32_w];rw[c8b0])|skip)
   have H':=zA H;clear H;go_wp2;go_meet
   case rel=>exact⟨_,(true),qF_,H',⟨by first|omega|exact Nat.le_refl _⟩,⟨qV_ HO2.out⟩,⟨by exact BK101.out⟩,⟨qB⟩⟩
  rw[if_neg c8] at H;have c8b0:=zGq c8;clear c8;(first|rw[c8b0] |(simp only[i64_w,i32_w];rw[c8b0])|skip)
  by_cases c9:a0 > 999999
  ·rw[if_pos c9] at H
   have c9b0:decide (999999 < a0)=true:=zFq c9;clear c9;have H':=zA H;clear H;go_wp2;go_meet
   case rel=>exact⟨_,(true),qF_,H',⟨by first|omega|exact Nat.le_refl _⟩,⟨qV_ HO2.out⟩,⟨by exact BK101.out⟩,⟨qB⟩⟩
  rw[if_neg c9] at H;have c9b0:decide (999999 < a0)=false:=zGq c9;clear c9;obtain⟨t102,A10,H⟩:=qD_ H;(try dsimp only at H);have H':=zA H;clear H;go_wp2_with (first|(go_at_call 125;(with_reducible refine(cQ.calls a1 t102 _ A10.out).mono ?_);rintro e w11 ⟨rfl,hb⟩;replace HO2:=zA (Kd.V_below (qV_ HO2.out) hb);replace BK101:=zA (qX BK101.out hb);replace HB:=zA (zV qB hb);(try clear hb)));go_meet
  case rel=>exact⟨_,(!t102),qF_,H',⟨by first|omega|exact Nat.le_refl _⟩,⟨qV_ HO2.out⟩,⟨by exact BK101.out⟩,⟨qB⟩⟩
 case rest=>
  clear HC6;try clear c2
  try clear p2
  try clear c8
  try clear c8b0
  try clear c9
  try clear c9b0
  obtain⟨kq,x26_5,rfl,HA,HJ5,HO_2,BK101,HB⟩:=hcut;cases kq with
  |zero=>exact absurd HA.out (by simp[bS.j0])
  |succ kj5=>
   have H:=HA.out;clear HA;simp only[bS.j0] at H;by_cases c12:x26_5=true
   ·subst c12
    have H1:(some (0,0,([] :List (S71)),2))=some (r1,r2,r3,r4):=by first|(rw[if_pos rfl] at H;exact H)|rfl
    clear H;have H:=H1;clear H1;simp only[zNq,zOq] at H;obtain⟨rfl,rfl,rfl,rfl⟩:=H;obtain⟨_,_,_,_,_,_⟩:=qc3f BK101.out;go_wp2;refine bodyPost_ret (results_ct rfl _ _ gb101 99 #[.int .i64 0,.int .i64 0,.slice none 0 0] (0,0) _ rfl (qV BK101.out) Try.underlying99 rfl (by kernel_rfl)) rfl ?_;exact⟨_,qE,by first|exact Kd.S_nil _ _ _ _ _|exact Kd.N_nil _ _ _ _ _|exact Kd.V_nil _ _ _ _ _|exact Kd.Q_nil _ _ _ _ _|exact Kd.R_nil _ _ _ _ _,qB⟩
   replace c12:=Bool.eq_false_iff.mpr c12;subst c12;have H1:((bA.f kj5 l2 a3 a4).bind fun bt103=> (if bt103.2=0 then((cN.f bt103.1).bind fun t107=> (if t107=true then(some (0,0,([] :List (S71)),32))else((cM.f kj5 bt103.1).bind fun bt108=> (if bt108.2=0 then(some (a0,a1,bt103.1,0))else(some (0,0,([] :List (S71)),8))))))else(some (0,0,([] :List (S71)),bt103.2))))=some (r1,r2,r3,r4):=by first|(rw[if_neg (show ¬ (false=true) by decide)] at H;exact H)|rfl
   clear H;have H:=H1;clear H1;obtain⟨⟨t103,t106⟩,A14,H⟩:=qD_ H;(try dsimp only at H);by_cases c15:t106=0
   ·rw[if_pos c15] at H
    have c15b0:(t106==0)=true:=beq_iff_eq.mpr c15;have c15b1:(t106 != 0)=false:=bne_eq_false_iff_eq.mpr c15;clear c15;obtain⟨t107,A16,H⟩:=qD_ H;(try dsimp only at H);by_cases c17:t107=true
    ·subst c17
     have H1:(some (0,0,([] :List (S71)),32))=some (r1,r2,r3,r4):=by first|(rw[if_pos rfl] at H;exact H)|rfl
     clear H;have H:=H1;clear H1;simp only[zNq,zOq] at H;obtain⟨rfl,rfl,rfl,rfl⟩:=H;go_wp2_with (first|((with_reducible refine zJq (f:=62) rfl ?_);refine goesL_ (some 32) rfl rfl Try.func62 (by kernel_rfl) rfl #[.slice A2 l2.length c2,.int .i64 a3,.int .i64 a4] rfl qG ?_;(with_reducible refine(bA.calls kj5 (fun k_=> ((P2_ k_∨w.heap.size≤k_)∧k_≠gb101)) _ _ l2 a3 a4 t103 t106 _ ?side1 A14.out).mono ?_);(case side1=>exact HO_2.out);rintro e w18 ⟨v104,rfl,ho0,hb⟩;refine⟨_,rfl,?_⟩;replace HO_2:=zA (Kd.V_elder' (qV_ HO_2.out) (Kd.N_base ho0) hb);have HO105:=zA (Kd.N_lower (Kd.N_mono (ok':=fun k_=> (P2_ k_∨w.heap.size≤k_)∧k_≠gb101) ho0 (fun k_ hk_=> ⟨Or.elim hk_ (fun hs_=>hs_.1) (fun hn_=> (.inr (Nat.le_trans (zW qB) hn_))),Or.elim hk_ (fun hs_=>hs_.2) (fun hn_=> (Kd.freshB (g:=gb101) (o:= .cells #[.int .i64 0,.int .i64 0,.slice none 0 0] 99 (0,0)) (qW BK101.out) k_ hn_))⟩)) (zW qB));replace BK101:=zA (qX BK101.out hb);replace HB:=zA (zV qB hb);(try clear hb);(try clear ho0);obtain⟨Ao19,co19,eo19⟩:=Kd.N_slice HO105.out;subst eo19)|((with_reducible refine zJq (f:=126) rfl ?_);refine goesL_ (some 40) rfl rfl Try.func126 (by kernel_rfl) rfl #[.slice Ao19 t103.length co19] rfl qG ?_;(with_reducible refine(cN.calls _ _ t103 true _ ?side1 ?side2 A16.out).mono ?_);(case side1=>repeat(first|exact(Kd.N_reads' HO105.out).2.2|(with_reducible refine Kd.C_alloc ?_ _)|(with_reducible refine Kd.C_drewN ?_ _)|(with_reducible refine Kd.C_drew ?_)));(case side2=>exact(Kd.N_reads' HO105.out).2.1);rintro e w20 ⟨rfl,hb⟩;refine⟨_,rfl,?_⟩;replace HO_2:=zA (Kd.V_below (qV_ HO_2.out) hb);replace HO105:=zA (Kd.N_below (qN_ HO105.out) hb);replace BK101:=zA (qX BK101.out hb);replace HB:=zA (zV qB hb);(try clear hb);obtain⟨_,_,_,_,_,_⟩:=qc3f BK101.out));refine bodyPost_ret (results_ct rfl _ _ gb101 99 #[.int .i64 0,.int .i64 0,.slice none 0 0] (0,0) _ rfl (qV BK101.out) Try.underlying99 rfl (by kernel_rfl)) rfl ?_;exact⟨_,qE,by first|exact Kd.S_nil _ _ _ _ _|exact Kd.N_nil _ _ _ _ _|exact Kd.V_nil _ _ _ _ _|exact Kd.Q_nil _ _ _ _ _|exact Kd.R_nil _ _ _ _ _,qB⟩
    replace c17:=Bool.eq_false_iff.mpr c17;subst c17;have H1:((cM.f kj5 t103).bind fun bt108=> (if bt108.2=0 then(some (a0,a1,t103,0))else(some (0,0,([] :List (S71)),8))))=some (r1,r2,r3,r4):=by first|(rw[if_neg (show ¬ (false=true) by decide)] at H;exact H)|rfl
    clear H;have H:=H1;clear H1;obtain⟨⟨t108,t109⟩,A22,H⟩:=qD_ H;(try dsimp only at H);by_cases c23:t109=0
    ·rw[if_pos c23] at H
     have c23b0:(t109==0)=true:=beq_iff_eq.mpr c23;have c23b1:(t109 != 0)=false:=bne_eq_false_iff_eq.mpr c23;clear c23;simp only[zNq,zOq] at H;obtain⟨rfl,rfl,rfl,rfl⟩:=H;go_wp2_with (first|((with_reducible refine zJq (f:=62) rfl ?_);refine goesL_ (some 32) rfl rfl Try.func62 (by kernel_rfl) rfl #[.slice A2 l2.length c2,.int .i64 a3,.int .i64 a4] rfl qG ?_;(with_reducible refine(bA.calls kj5 (fun k_=> ((P2_ k_∨w.heap.size≤k_)∧k_≠gb101)) _ _ l2 a3 a4 t103 t106 _ ?side1 A14.out).mono ?_);(case side1=>exact HO_2.out);rintro e w24 ⟨v104,rfl,ho0,hb⟩;refine⟨_,rfl,?_⟩;replace HO_2:=zA (Kd.V_elder' (qV_ HO_2.out) (Kd.N_base ho0) hb);have HO105:=zA (Kd.N_lower (Kd.N_mono (ok':=fun k_=> (P2_ k_∨w.heap.size≤k_)∧k_≠gb101) ho0 (fun k_ hk_=> ⟨Or.elim hk_ (fun hs_=>hs_.1) (fun hn_=> (.inr (Nat.le_trans (zW qB) hn_))),Or.elim hk_ (fun hs_=>hs_.2) (fun hn_=> (Kd.freshB (g:=gb101) (o:= .cells #[.int .i64 0,.int .i64 0,.slice none 0 0] 99 (0,0)) (qW BK101.out) k_ hn_))⟩)) (zW qB));replace BK101:=zA (qX BK101.out hb);replace HB:=zA (zV qB hb);(try clear hb);(try clear ho0);obtain⟨Ao25,co25,eo25⟩:=Kd.N_slice HO105.out;subst eo25)|((with_reducible refine zJq (f:=126) rfl ?_);refine goesL_ (some 40) rfl rfl Try.func126 (by kernel_rfl) rfl #[.slice Ao25 t103.length co25] rfl qG ?_;(with_reducible refine(cN.calls _ _ t103 false _ ?side1 ?side2 A16.out).mono ?_);(case side1=>repeat(first|exact(Kd.N_reads' HO105.out).2.2|(with_reducible refine Kd.C_alloc ?_ _)|(with_reducible refine Kd.C_drewN ?_ _)|(with_reducible refine Kd.C_drew ?_)));(case side2=>exact(Kd.N_reads' HO105.out).2.1);rintro e w26 ⟨rfl,hb⟩;refine⟨_,rfl,?_⟩;replace HO_2:=zA (Kd.V_below (qV_ HO_2.out) hb);replace HO105:=zA (Kd.N_below (qN_ HO105.out) hb);replace BK101:=zA (qX BK101.out hb);replace HB:=zA (zV qB hb);(try clear hb))|((with_reducible refine zJq (f:=127) rfl ?_);refine goesL_ (some 44) rfl rfl Try.func127 (by kernel_rfl) rfl #[.slice Ao25 t103.length co25] rfl qG ?_;(with_reducible refine(cM.calls kj5 _ _ t103 t108 t109 _ ?side1 ?side2 A22.out).mono ?_);(case side1=>repeat(first|exact(Kd.N_reads' HO105.out).2.2|(with_reducible refine Kd.C_alloc ?_ _)|(with_reducible refine Kd.C_drewN ?_ _)|(with_reducible refine Kd.C_drew ?_)));(case side2=>exact(Kd.N_reads' HO105.out).2.1);rintro e w27 ⟨rfl,hb⟩;refine⟨_,rfl,?_⟩;replace HO_2:=zA (Kd.V_below (qV_ HO_2.out) hb);replace HO105:=zA (Kd.N_below (qN_ HO105.out) hb);replace BK101:=zA (qX BK101.out hb);replace HB:=zA (zV qB hb);(try clear hb);obtain⟨_,_,_,_,_,_⟩:=qc3f BK101.out))
     refine bodyPost_ret (results_ct rfl _ _ gb101 99 #[.int .i64 a0,.int .i64 a1,.slice Ao25 t103.length co25] (0,0) _ rfl (qV BK101.out) Try.underlying99 rfl (by kernel_rfl)) rfl ?_;exact⟨_,qE,by(with_reducible repeat(first|apply Kd.N_alloc|apply Kd.N_drewN|apply Kd.N_drew));exact Kd.N_mono (Kd.N_far (p:=⟨gb101,2,none⟩) (Kd.N_far (p:=⟨gb101,1,none⟩) (Kd.N_far (p:=⟨gb101,0,none⟩) (Kd.N_mono HO105.out (fun k_ hk=> (⟨hk,hk.2⟩:_∧k_≠gb101))) (fun _ hk=>hk.2) (.int .i64 a0)) (fun _ hk=>hk.2) (.int .i64 a1)) (fun _ hk=>hk.2) (.slice Ao25 t103.length co25)) (fun _ hk=>hk.1.1),qB⟩
    rw[if_neg c23] at H;have c23b0:(t109==0)=false:=beq_eq_false_iff_ne.mpr c23;have c23b1:(t109 != 0)=true:=bne_iff_ne.mpr c23;simp only[zNq,zOq] at H;obtain⟨rfl,rfl,rfl,rfl⟩:=H;go_wp2_with (first|((with_reducible refine zJq (f:=62) rfl ?_);refine goesL_ (some 32) rfl rfl Try.func62 (by kernel_rfl) rfl #[.slice A2 l2.length c2,.int .i64 a3,.int .i64 a4] rfl qG ?_;(with_reducible refine(bA.calls kj5 (fun k_=> ((P2_ k_∨w.heap.size≤k_)∧k_≠gb101)) _ _ l2 a3 a4 t103 t106 _ ?side1 A14.out).mono ?_);(case side1=>exact HO_2.out);rintro e w29 ⟨v104,rfl,ho0,hb⟩;refine⟨_,rfl,?_⟩;replace HO_2:=zA (Kd.V_elder' (qV_ HO_2.out) (Kd.N_base ho0) hb);have HO105:=zA (Kd.N_lower (Kd.N_mono (ok':=fun k_=> (P2_ k_∨w.heap.size≤k_)∧k_≠gb101) ho0 (fun k_ hk_=> ⟨Or.elim hk_ (fun hs_=>hs_.1) (fun hn_=> (.inr (Nat.le_trans (zW qB) hn_))),Or.elim hk_ (fun hs_=>hs_.2) (fun hn_=> (Kd.freshB (g:=gb101) (o:= .cells #[.int .i64 0,.int .i64 0,.slice none 0 0] 99 (0,0)) (qW BK101.out) k_ hn_))⟩)) (zW qB));replace BK101:=zA (qX BK101.out hb);replace HB:=zA (zV qB hb);(try clear hb);(try clear ho0);obtain⟨Ao30,co30,eo30⟩:=Kd.N_slice HO105.out;subst eo30)|((with_reducible refine zJq (f:=126) rfl ?_);refine goesL_ (some 40) rfl rfl Try.func126 (by kernel_rfl) rfl #[.slice Ao30 t103.length co30] rfl qG ?_;(with_reducible refine(cN.calls _ _ t103 false _ ?side1 ?side2 A16.out).mono ?_);(case side1=>repeat(first|exact(Kd.N_reads' HO105.out).2.2|(with_reducible refine Kd.C_alloc ?_ _)|(with_reducible refine Kd.C_drewN ?_ _)|(with_reducible refine Kd.C_drew ?_)));(case side2=>exact(Kd.N_reads' HO105.out).2.1);rintro e w31 ⟨rfl,hb⟩;refine⟨_,rfl,?_⟩;replace HO_2:=zA (Kd.V_below (qV_ HO_2.out) hb);replace HO105:=zA (Kd.N_below (qN_ HO105.out) hb);replace BK101:=zA (qX BK101.out hb);replace HB:=zA (zV qB hb);(try clear hb))|((with_reducible refine zJq (f:=127) rfl ?_);refine goesL_ (some 44) rfl rfl Try.func127 (by kernel_rfl) rfl #[.slice Ao30 t103.length co30] rfl qG ?_;(with_reducible refine(cM.calls kj5 _ _ t103 t108 t109 _ ?side1 ?side2 A22.out).mono ?_);(case side1=>repeat(first|exact(Kd.N_reads' HO105.out).2.2|(with_reducible refine Kd.C_alloc ?_ _)|(with_reducible refine Kd.C_drewN ?_ _)|(with_reducible refine Kd.C_drew ?_)));(case side2=>exact(Kd.N_reads' HO105.out).2.1);rintro e w32 ⟨rfl,hb⟩;refine⟨_,rfl,?_⟩;replace HO_2:=zA (Kd.V_below (qV_ HO_2.out) hb);replace HO105:=zA (Kd.N_below (qN_ HO105.out) hb);replace BK101:=zA (qX BK101.out hb);replace HB:=zA (zV qB hb);(try clear hb);obtain⟨_,_,_,_,_,_⟩:=qc3f BK101.out))
    refine bodyPost_ret (results_ct rfl _ _ gb101 99 #[.int .i64 0,.int .i64 0,.slice none 0 0] (0,0) _ rfl (qV BK101.out) Try.underlying99 rfl (by kernel_rfl)) rfl ?_;exact⟨_,qE,by first|exact Kd.S_nil _ _ _ _ _|exact Kd.N_nil _ _ _ _ _|exact Kd.V_nil _ _ _ _ _|exact Kd.Q_nil _ _ _ _ _|exact Kd.R_nil _ _ _ _ _,qB⟩
   rw[if_neg c15] at H;have c15b0:(t106==0)=false:=beq_eq_false_iff_ne.mpr c15;have c15b1:(t106 != 0)=true:=bne_iff_ne.mpr c15;simp only[zNq,zOq] at H;obtain⟨rfl,rfl,rfl,rfl⟩:=H;go_wp2_with (first|((with_reducible refine zJq (f:=62) rfl ?_);refine goesL_ (some 32) rfl rfl Try.func62 (by kernel_rfl) rfl #[.slice A2 l2.length c2,.int .i64 a3,.int .i64 a4] rfl qG ?_;(with_reducible refine(bA.calls kj5 (fun k_=> ((P2_ k_∨w.heap.size≤k_)∧k_≠gb101)) _ _ l2 a3 a4 t103 t106 _ ?side1 A14.out).mono ?_);(case side1=>exact HO_2.out);rintro e w34 ⟨v104,rfl,ho0,hb⟩;refine⟨_,rfl,?_⟩;replace HO_2:=zA (Kd.V_elder' (qV_ HO_2.out) (Kd.N_base ho0) hb);have HO105:=zA (Kd.N_lower (Kd.N_mono (ok':=fun k_=> (P2_ k_∨w.heap.size≤k_)∧k_≠gb101) ho0 (fun k_ hk_=> ⟨Or.elim hk_ (fun hs_=>hs_.1) (fun hn_=> (.inr (Nat.le_trans (zW qB) hn_))),Or.elim hk_ (fun hs_=>hs_.2) (fun hn_=> (Kd.freshB (g:=gb101) (o:= .cells #[.int .i64 0,.int .i64 0,.slice none 0 0] 99 (0,0)) (qW BK101.out) k_ hn_))⟩)) (zW qB));replace BK101:=zA (qX BK101.out hb);replace HB:=zA (zV qB hb);(try clear hb);(try clear ho0);obtain⟨_,_,_,_,_,_⟩:=qc3f BK101.out));refine bodyPost_ret (results_ct rfl _ _ gb101 99 #[.int .i64 0,.int .i64 0,.slice none 0 0] (0,0) _ rfl (qV BK101.out) Try.underlying99 rfl (by kernel_rfl)) rfl ?_;exact⟨_,qE,by first|exact Kd.S_nil _ _ _ _ _|exact Kd.N_nil _ _ _ _ _|exact Kd.V_nil _ _ _ _ _|exact Kd.Q_nil _ _ _ _ _|exact Kd.R_nil _ _ _ _ _,qB⟩
def cI.f (a0:ByteArray):Option (Bool):=some (a0.toList != a0.toList)
theorem cI.calls (a0:ByteArray) (r:Bool) (w:World) (h:cI.f a0=some r):
  Calls Try.prog 162 #[.string a0] w fun e w'=>e= .returned (.bool r)∧Drawn0 w w':=by
 have H:(some (a0.toList != a0.toList))=some r:=h
 clear h
 obtain rfl:=zKq H
 go_enter Try.func162,Try.ntmps162
 go_wp2
 go_ret
 exact⟨by first|rfl|(simp;done)|(simp[*];done),by repeat(first|exact Drawn0.refl _|apply Drawn0.step)⟩
def cZ.f (a0:ByteArray) (a1:ByteArray):Option (Bool):=(cI.f a0).bind fun t101=> (if t101=true then((cI.f a1).bind fun t102=> (if t102=true then(some (Op.bytesLess a0.toList a1.toList))else(some true)))else(some (Op.bytesLess a0.toList a1.toList)))
theorem cZ.calls (a0:ByteArray) (a1:ByteArray) (r:Bool) (w:World) (h:cZ.f a0 a1=some r):
  Calls Try.prog 152 #[.string a0,.string a1] w fun e w'=>e= .returned (.bool r)∧Drawn0 w w':=by
 have H:((cI.f a0).bind fun t101=> (if t101=true then((cI.f a1).bind fun t102=> (if t102=true then(some (Op.bytesLess a0.toList a1.toList))else(some true)))else(some (Op.bytesLess a0.toList a1.toList))))=some r:=h
 clear h
 obtain⟨t101,A3,H⟩:=qD_ H
 (try dsimp only at H)
 by_cases c4:t101=true
 ·subst c4
  have H1:((cI.f a1).bind fun t102=> (if t102=true then(some (Op.bytesLess a0.toList a1.toList))else(some true)))=some r:=by first|(rw[if_pos rfl] at H;exact H)|rfl
  clear H;have H:=H1;clear H1;obtain⟨t102,A5,H⟩:=qD_ H;(try dsimp only at H);by_cases c6:t102=true
  ·subst c6
   have H1:(some (Op.bytesLess a0.toList a1.toList))=some r:=by first|(rw[if_pos rfl] at H;exact H)|rfl
   clear H;have H:=H1;clear H1;obtain rfl:=zKq H;go_enter Try.func152,Try.ntmps152;go_wp2_with (first|((with_reducible refine zJq (f:=162) rfl ?_);refine goesL_ (some 6) rfl rfl Try.func162 (by kernel_rfl) rfl #[.string a0] rfl qG ?_;(with_reducible refine(cI.calls a0 true _ A3.out).mono ?_);rintro e w' ⟨rfl,⟨nd,rfl⟩⟩;refine⟨_,rfl,?_⟩)|(go_at_call 162;(with_reducible refine(cI.calls a1 true _ A5.out).mono ?_);rintro e w' ⟨rfl,⟨nd,rfl⟩⟩));go_ret;exact⟨by first|rfl|(simp;done)|(simp[*];done),by repeat(first|exact Drawn0.refl _|apply Drawn0.step)⟩
  replace c6:=Bool.eq_false_iff.mpr c6;subst c6;have H1:(some true)=some r:=by first|(rw[if_neg (show ¬ (false=true) by decide)] at H;exact H)|rfl
  clear H;have H:=H1;clear H1;obtain rfl:=zKq H;go_enter Try.func152,Try.ntmps152;go_wp2_with (first|((with_reducible refine zJq (f:=162) rfl ?_);refine goesL_ (some 6) rfl rfl Try.func162 (by kernel_rfl) rfl #[.string a0] rfl qG ?_;(with_reducible refine(cI.calls a0 true _ A3.out).mono ?_);rintro e w' ⟨rfl,⟨nd,rfl⟩⟩;refine⟨_,rfl,?_⟩)|(go_at_call 162;(with_reducible refine(cI.calls a1 false _ A5.out).mono ?_);rintro e w' ⟨rfl,⟨nd,rfl⟩⟩));go_ret;exact⟨by first|rfl|(simp;done)|(simp[*];done),by repeat(first|exact Drawn0.refl _|apply Drawn0.step)⟩
 replace c4:=Bool.eq_false_iff.mpr c4
 subst c4
 have H1:(some (Op.bytesLess a0.toList a1.toList))=some r:=by first|(rw[if_neg (show ¬ (false=true) by decide)] at H;exact H)|rfl
 clear H
 have H:=H1
 clear H1
 obtain rfl:=zKq H
 go_enter Try.func152,Try.ntmps152
 go_wp2_with (first|((with_reducible refine zJq (f:=162) rfl ?_);refine goesL_ (some 6) rfl rfl Try.func162 (by kernel_rfl) rfl #[.string a0] rfl qG ?_;(with_reducible refine(cI.calls a0 false _ A3.out).mono ?_);rintro e w' ⟨rfl,⟨nd,rfl⟩⟩;refine⟨_,rfl,?_⟩))
 go_ret
 exact⟨by first|rfl|(simp;done)|(simp[*];done),by repeat(first|exact Drawn0.refl _|apply Drawn0.step)⟩
def cJ.f (a0:ByteArray):Option (Bool):=some (a0.toList != a0.toList)
theorem cJ.calls (a0:ByteArray) (r:Bool) (w:World) (h:cJ.f a0=some r):
  Calls Try.prog 153 #[.string a0] w fun e w'=>e= .returned (.bool r)∧Drawn0 w w':=by
 have H:(some (a0.toList != a0.toList))=some r:=h
 clear h
 obtain rfl:=zKq H
 go_enter Try.func153,Try.ntmps153
 go_wp2
 go_ret
 exact⟨by first|rfl|(simp;done)|(simp[*];done),by repeat(first|exact Drawn0.refl _|apply Drawn0.step)⟩
def aM.l0:Nat→List ByteArray→ByteArray→Int→Int→Int→Option (Int × Bool)
  |0,_,_,_,_,_=>none
  |k+1,x0,x1,x6,x7,x8=>if x7 < x8 then(if 0≤(wrap64 ((IntKind.u64.wrap (wrap64 (x7+x8))) / 2))then(if(wrap64 ((IntKind.u64.wrap (wrap64 (x7+x8))) / 2)) < (x0.length:Int)then((cZ.f (rdOf ByteArray.empty x0 (wrap64 ((IntKind.u64.wrap (wrap64 (x7+x8))) / 2))) x1).bind fun t102=> (if t102=true then(aM.l0 k x0 x1 x6 (wrap64 ((wrap64 ((IntKind.u64.wrap (wrap64 (x7+x8))) / 2))+1)) x8)else(aM.l0 k x0 x1 x6 x7 (wrap64 ((IntKind.u64.wrap (wrap64 (x7+x8))) / 2)))))else(none))else(none))else(if x7 < x6 then(if 0≤x7 then(if x7 < (x0.length:Int)then(if(rdOf ByteArray.empty x0 x7).toList=x1.toList then(some (x7,true))else((cJ.f (rdOf ByteArray.empty x0 x7)).bind fun t105=> (if t105=true then((cJ.f x1).bind fun t106=> (some (x7,t106)))else(some (x7,false)))))else(none))else(none))else(some (x7,false)))
def aM.f (k:Nat) (l0:List ByteArray) (a1:ByteArray):Option (Int × Bool):=aM.l0 k l0 a1 (l0.length:Int) 0 (l0.length:Int)
theorem aM.mono_l: ∀ k,(∀ y0 y1 y2 y3 y4,LeO (aM.l0 k y0 y1 y2 y3 y4) (aM.l0 (k+1) y0 y1 y2 y3 y4))
  |0=>fun _ _ _ _ _ r h=>by simp[aM.l0] at h
  |k+1=>by
    have ih0:=aM.mono_l k
    intro y0 y1 y2 y3 y4
    unfold aM.l0
    repeat' (with_reducible first|exact ih0 _ _ _ _ _|exact LeO.refl _|exact LeO.none _|refine LeO.ite ?_ ?_|refine LeO.bind ?_ (fun _=>?_))
theorem aM.mono: ∀ a0 a1 k,LeO (aM.f k a0 a1) (aM.f (k+1) a0 a1):=by
  intro a0 a1 k
  have ih0:=aM.mono_l k
  unfold aM.f
  repeat' (with_reducible first|exact ih0 _ _ _ _ _|exact LeO.refl _|exact LeO.none _|refine LeO.ite ?_ ?_|refine LeO.bind ?_ (fun _=>?_))
theorem aM.calls (k:Nat) (A0:Option Addr) (c0:Nat) (l0:List ByteArray) (a1:ByteArray) (r1:Int) (r2:Bool) (w:World) (hr0:Kd.C Kd.string w A0 l0.length l0) (hc0:l0.length≤c0) (h:aM.f k l0 a1=some (r1,r2)):
  Calls Try.prog 145 #[.slice A0 l0.length c0,.string a1] w fun e w'=>e= .returned (.tuple #[.int .i64 r1,.bool r2])∧Drawn0 w w':=by
 have HR0:=zA hr0
 have HC0:=zA hc0
 clear hr0 hc0
 have H:(aM.l0 k l0 a1 (l0.length:Int) 0 (l0.length:Int))=some (r1,r2):=h
 clear h
 have H':=zA H
 clear H
 go_enter Try.func145,Try.ntmps145
 go_wp2
 go_loopg[7,8] k (fun kq v7 v8 w'=> ∃ (x7_1:Int) (x8_1:Int),v7= .int .i64 x7_1∧v8= .int .i64 x8_1∧Aside0 (aM.l0 kq l0 a1 (l0.length:Int) x7_1 x8_1=some (r1,r2))∧Aside0 (kq≤k)∧Drawn0 w w')
 case atStart=>exact⟨(0),((l0.length:Int)),qF_,qF_,H',⟨Nat.le_refl _⟩,by repeat(first|exact Drawn0.refl _|apply Drawn0.step)⟩
 case round=>
  clear H';try clear c1
  try clear p2
  obtain⟨x7_1,x8_1,rfl,rfl,HA,HK1,⟨m1,rfl⟩⟩:=hrel;cases gk with
  |zero=>exact absurd HA.out (by simp[aM.l0])
  |succ k1=>
   have H:=HA.out;clear HA;simp only[aM.l0] at H;by_cases c3:x7_1 < x8_1
   ·rw[if_pos c3] at H
    have c3b0:=zFq c3;clear c3;obtain⟨ji4,hji4⟩: ∃ j_:Int,(wrap64 ((IntKind.u64.wrap (wrap64 (x7_1+x8_1))) / 2))=j_:=⟨_,rfl⟩
    replace H:(if 0≤(ji4)then(if(ji4) < (l0.length:Int)then((cZ.f (rdOf ByteArray.empty l0 (ji4)) a1).bind fun t102=> (if t102=true then(aM.l0 k1 l0 a1 (l0.length:Int) (wrap64 ((ji4)+1)) x8_1)else(aM.l0 k1 l0 a1 (l0.length:Int) x7_1 ji4)))else(none))else(none))=some (r1,r2):=by first|(rw[hji4] at H;exact H)|(simp only[hji4] at H⊢;exact H)
    have hji4w:(IntKind.i64.wrap ((IntKind.u64.wrap (wrap64 (x7_1+x8_1))) / 2))=ji4:=(i64_w _).trans hji4;by_cases c5:0≤(ji4)
    ·rw[if_pos c5] at H
     have c5b0:=zFq c5;clear c5;by_cases c6:(ji4) < (l0.length:Int)
     ·rw[if_pos c6] at H
      have c6b0:=zFq c6;clear c6;obtain⟨t102,A7,H⟩:=qD_ H;(try dsimp only at H);by_cases c8:t102=true
      ·subst c8
       have H1:(aM.l0 k1 l0 a1 (l0.length:Int) (wrap64 ((ji4)+1)) x8_1)=some (r1,r2):=by first|(rw[if_pos rfl] at H;exact H)|rfl
       clear H;have H:=H1;clear H1;have H':=zA H;clear H;have p101:0≤((ji4):Int):=qO_;have q101:(ji4) < (l0.length:Int):=qO_;obtain⟨ad101,e101,hx101_0⟩:=Kd.at_string HR0.out (ji4) p101 q101;cases e101
       replace p101:=eq_true p101;replace q101:=eq_true q101;go_wp2_with (first|((with_reducible refine zJq (f:=152) rfl ?_);refine goesL_ (some 27) rfl rfl Try.func152 (by kernel_rfl) rfl #[.string (rdOf ByteArray.empty l0 (ji4)),.string a1] rfl (by(try simp only[zR,zS,zT]);first|done|(simp only[hji4];rfl)|rfl|(simp only[zP,zQ];rfl)) ?_;(with_reducible refine(cZ.calls (rdOf ByteArray.empty l0 (ji4)) a1 true _ A7.out).mono ?_);rintro e w' ⟨rfl,⟨nd,rfl⟩⟩;refine⟨_,rfl,?_⟩));go_roundg k1
       case measure=>have:=HK1.out;omega
       case rel=>exact⟨(wrap64 ((ji4)+1)),(x8_1),(by first|rfl|(simp;done)|(simp only[←hji4] <;> (first|rfl|simp))|(simp[*];done)),qF_,H',⟨by have:=HK1.out;omega⟩,by repeat(first|exact Drawn0.refl _|apply Drawn0.step)⟩
      replace c8:=Bool.eq_false_iff.mpr c8;subst c8;have H1:(aM.l0 k1 l0 a1 (l0.length:Int) x7_1 ji4)=some (r1,r2):=by first|(rw[if_neg (show ¬ (false=true) by decide)] at H;exact H)|rfl
      clear H;have H:=H1;clear H1;have H':=zA H;clear H;have p101:0≤((ji4):Int):=qO_;have q101:(ji4) < (l0.length:Int):=qO_;obtain⟨ad101,e101,hx101_0⟩:=Kd.at_string HR0.out (ji4) p101 q101;cases e101
      replace p101:=eq_true p101;replace q101:=eq_true q101;go_wp2_with (first|((with_reducible refine zJq (f:=152) rfl ?_);refine goesL_ (some 27) rfl rfl Try.func152 (by kernel_rfl) rfl #[.string (rdOf ByteArray.empty l0 (ji4)),.string a1] rfl (by(try simp only[zR,zS,zT]);first|done|(simp only[hji4];rfl)|rfl|(simp only[zP,zQ];rfl)) ?_;(with_reducible refine(cZ.calls (rdOf ByteArray.empty l0 (ji4)) a1 false _ A7.out).mono ?_);rintro e w' ⟨rfl,⟨nd,rfl⟩⟩;refine⟨_,rfl,?_⟩));go_roundg k1
      case measure=>have:=HK1.out;omega
      case rel=>exact⟨(x7_1),(ji4),qF_,(by first|rfl|(simp;done)|(simp only[←hji4] <;> (first|rfl|simp))|(simp[*];done)),H',⟨by have:=HK1.out;omega⟩,by repeat(first|exact Drawn0.refl _|apply Drawn0.step)⟩
     rw[if_neg c6] at H;exact absurd H (by simp)
    rw[if_neg c5] at H;exact absurd H (by simp)
   rw[if_neg c3] at H;have c3b0:=zGq c3;clear c3;by_cases c9:x7_1 < (l0.length:Int)
   ·rw[if_pos c9] at H
    have c9b0:=zFq c9;clear c9;by_cases c10:0≤x7_1
    ·rw[if_pos c10] at H
     have c10b0:=zFq c10;clear c10;by_cases c11:x7_1 < (l0.length:Int)
     ·rw[if_pos c11] at H
      have c11b0:=zFq c11;clear c11;by_cases c12:(rdOf ByteArray.empty l0 x7_1).toList=a1.toList
      ·rw[if_pos c12] at H
       have c12b0:((rdOf ByteArray.empty l0 x7_1).toList==a1.toList)=true:=beq_iff_eq.mpr c12;have c12b1:((rdOf ByteArray.empty l0 x7_1).toList != a1.toList)=false:=bne_eq_false_iff_eq.mpr c12;clear c12;simp only[zNq,zOq] at H;obtain⟨rfl,rfl⟩:=H;have p103:0≤(x7_1:Int):=qO_;have q103:x7_1 < (l0.length:Int):=qO_;obtain⟨ad103,e103,hx103_0⟩:=Kd.at_string HR0.out x7_1 p103 q103;cases e103
       replace p103:=eq_true p103;replace q103:=eq_true q103;go_wp2;go_ret2;exact⟨by first|rfl|(simp;done)|(simp[*];done),by repeat(first|exact Drawn0.refl _|apply Drawn0.step)⟩
      rw[if_neg c12] at H;have c12b0:((rdOf ByteArray.empty l0 x7_1).toList==a1.toList)=false:=beq_eq_false_iff_ne.mpr c12;have c12b1:((rdOf ByteArray.empty l0 x7_1).toList != a1.toList)=true:=bne_iff_ne.mpr c12;obtain⟨t105,A13,H⟩:=qD_ H;(try dsimp only at H);by_cases c14:t105=true
      ·subst c14
       have H1:((cJ.f a1).bind fun t106=> (some (x7_1,t106)))=some (r1,r2):=by first|(rw[if_pos rfl] at H;exact H)|rfl
       clear H;have H:=H1;clear H1;obtain⟨t106,A15,H⟩:=qD_ H;(try dsimp only at H);simp only[zNq,zOq] at H;obtain⟨rfl,rfl⟩:=H;have p103:0≤(x7_1:Int):=qO_;have q103:x7_1 < (l0.length:Int):=qO_;obtain⟨ad103,e103,hx103_0⟩:=Kd.at_string HR0.out x7_1 p103 q103;cases e103
       replace p103:=eq_true p103;replace q103:=eq_true q103;have p104:0≤(x7_1:Int):=qO_;have q104:x7_1 < (l0.length:Int):=qO_;obtain⟨ad104,e104,hx104_0⟩:=Kd.at_string HR0.out x7_1 p104 q104;obtain rfl:ad103=ad104:=(by injection e104)
       replace p104:=eq_true p104;replace q104:=eq_true q104;go_wp2_with (first|(go_at_call 153;(with_reducible refine(cJ.calls (rdOf ByteArray.empty l0 x7_1) true _ A13.out).mono ?_);rintro e w' ⟨rfl,⟨nd,rfl⟩⟩)|(go_at_call 153;(with_reducible refine(cJ.calls a1 t106 _ A15.out).mono ?_);rintro e w' ⟨rfl,⟨nd,rfl⟩⟩));go_ret2;exact⟨by first|rfl|(simp;done)|(simp[*];done),by repeat(first|exact Drawn0.refl _|apply Drawn0.step)⟩
      replace c14:=Bool.eq_false_iff.mpr c14;subst c14;have H1:(some (x7_1,false))=some (r1,r2):=by first|(rw[if_neg (show ¬ (false=true) by decide)] at H;exact H)|rfl
      clear H;have H:=H1;clear H1;simp only[zNq,zOq] at H;obtain⟨rfl,rfl⟩:=H;have p103:0≤(x7_1:Int):=qO_;have q103:x7_1 < (l0.length:Int):=qO_;obtain⟨ad103,e103,hx103_0⟩:=Kd.at_string HR0.out x7_1 p103 q103;cases e103
      replace p103:=eq_true p103;replace q103:=eq_true q103;have p104:0≤(x7_1:Int):=qO_;have q104:x7_1 < (l0.length:Int):=qO_;obtain⟨ad104,e104,hx104_0⟩:=Kd.at_string HR0.out x7_1 p104 q104;obtain rfl:ad103=ad104:=(by injection e104)
      replace p104:=eq_true p104;replace q104:=eq_true q104;go_wp2_with (first|(go_at_call 153;(with_reducible refine(cJ.calls (rdOf ByteArray.empty l0 x7_1) false _ A13.out).mono ?_);rintro e w' ⟨rfl,⟨nd,rfl⟩⟩));go_ret2;exact⟨by first|rfl|(simp;done)|(simp[*];done),by repeat(first|exact Drawn0.refl _|apply Drawn0.step)⟩
     rw[if_neg c11] at H;exact absurd H (by simp)
    rw[if_neg c10] at H;exact absurd H (by simp)
   rw[if_neg c9] at H;have c9b0:=zGq c9;clear c9;simp only[zNq,zOq] at H;obtain⟨rfl,rfl⟩:=H;go_wp2;go_ret2;exact⟨by first|rfl|(simp;done)|(simp[*];done),by repeat(first|exact Drawn0.refl _|apply Drawn0.step)⟩
def bB.l0:Nat→List ByteArray→ByteArray→Int→Int→Option (Int)
  |0,_,_,_,_=>none
  |k+1,x0,x1,x7,x8=>if x8 < x7 then(if 0≤x8 then(if x8 < (x0.length:Int)then(if x1.toList=(rdOf ByteArray.empty x0 x8).toList then(some x8)else(bB.l0 k x0 x1 x7 (wrap64 (x8+1))))else(none))else(none))else(some (-1))
def bB.f (k:Nat) (l0:List ByteArray) (a1:ByteArray):Option (Int):=bB.l0 k l0 a1 (l0.length:Int) 0
theorem bB.mono_l: ∀ k,(∀ y0 y1 y2 y3,LeO (bB.l0 k y0 y1 y2 y3) (bB.l0 (k+1) y0 y1 y2 y3))
  |0=>fun _ _ _ _ r h=>by simp[bB.l0] at h
  |k+1=>by
    have ih0:=bB.mono_l k
    intro y0 y1 y2 y3
    unfold bB.l0
    repeat' (with_reducible first|exact ih0 _ _ _ _|exact LeO.refl _|exact LeO.none _|refine LeO.ite ?_ ?_|refine LeO.bind ?_ (fun _=>?_))
theorem bB.mono: ∀ a0 a1 k,LeO (bB.f k a0 a1) (bB.f (k+1) a0 a1):=by
  intro a0 a1 k
  have ih0:=bB.mono_l k
  unfold bB.f
  repeat' (with_reducible first|exact ih0 _ _ _ _|exact LeO.refl _|exact LeO.none _|refine LeO.ite ?_ ?_|refine LeO.bind ?_ (fun _=>?_))
theorem bB.calls (k:Nat) (A0:Option Addr) (c0:Nat) (l0:List ByteArray) (a1:ByteArray) (r:Int) (w:World) (hr0:Kd.C Kd.string w A0 l0.length l0) (hc0:l0.length≤c0) (h:bB.f k l0 a1=some r):
  Calls Try.prog 146 #[.slice A0 l0.length c0,.string a1] w fun e w'=>e= .returned (.int .i64 r)∧Drawn0 w w':=by
 have HR0:=zA hr0
 have HC0:=zA hc0
 clear hr0 hc0
 have H:(bB.l0 k l0 a1 (l0.length:Int) 0)=some r:=h
 clear h
 have H':=zA H
 clear H
 go_enter Try.func146,Try.ntmps146
 go_wp2
 go_loopg[8] k (fun kq v8 w'=> ∃ (x8_1:Int),v8= .int .i64 x8_1∧Aside0 (bB.l0 kq l0 a1 (l0.length:Int) x8_1=some r)∧Aside0 (kq≤k)∧Drawn0 w w')
 case atStart=>exact⟨(0),qF_,H',⟨Nat.le_refl _⟩,by repeat(first|exact Drawn0.refl _|apply Drawn0.step)⟩
 case round=>
  clear H';try clear c1
  try clear p2
  obtain⟨x8_1,rfl,HA,HK1,⟨m1,rfl⟩⟩:=hrel;cases gk with
  |zero=>exact absurd HA.out (by simp[bB.l0])
  |succ k1=>
   have H:=HA.out;clear HA;simp only[bB.l0] at H;by_cases c3:x8_1 < (l0.length:Int)
   ·rw[if_pos c3] at H
    have c3b0:=zFq c3;clear c3;by_cases c4:0≤x8_1
    ·rw[if_pos c4] at H
     have c4b0:=zFq c4;clear c4;by_cases c5:x8_1 < (l0.length:Int)
     ·rw[if_pos c5] at H
      have c5b0:=zFq c5;clear c5;by_cases c6:a1.toList=(rdOf ByteArray.empty l0 x8_1).toList
      ·rw[if_pos c6] at H
       have c6b0:(a1.toList==(rdOf ByteArray.empty l0 x8_1).toList)=true:=beq_iff_eq.mpr c6;have c6b1:(a1.toList !=(rdOf ByteArray.empty l0 x8_1).toList)=false:=bne_eq_false_iff_eq.mpr c6;clear c6;obtain rfl:=zKq H;have p101:0≤(x8_1:Int):=qO_;have q101:x8_1 < (l0.length:Int):=qO_;obtain⟨ad101,e101,hx101_0⟩:=Kd.at_string HR0.out x8_1 p101 q101;cases e101
       replace p101:=eq_true p101;replace q101:=eq_true q101;go_wp2;go_ret;exact⟨by first|rfl|(simp;done)|(simp[*];done),by repeat(first|exact Drawn0.refl _|apply Drawn0.step)⟩
      rw[if_neg c6] at H;have c6b0:(a1.toList==(rdOf ByteArray.empty l0 x8_1).toList)=false:=beq_eq_false_iff_ne.mpr c6;have c6b1:(a1.toList !=(rdOf ByteArray.empty l0 x8_1).toList)=true:=bne_iff_ne.mpr c6;have H':=zA H;clear H;have p101:0≤(x8_1:Int):=qO_;have q101:x8_1 < (l0.length:Int):=qO_;obtain⟨ad101,e101,hx101_0⟩:=Kd.at_string HR0.out x8_1 p101 q101;cases e101
      replace p101:=eq_true p101;replace q101:=eq_true q101;go_wp2;go_roundg k1
      case measure=>have:=HK1.out;omega
      case rel=>exact⟨(wrap64 (x8_1+1)),qF_,H',⟨by have:=HK1.out;omega⟩,by repeat(first|exact Drawn0.refl _|apply Drawn0.step)⟩
     rw[if_neg c5] at H;exact absurd H (by simp)
    rw[if_neg c4] at H;exact absurd H (by simp)
   rw[if_neg c3] at H;have c3b0:=zGq c3;clear c3;obtain rfl:=zKq H;go_wp2;go_ret;exact⟨by first|rfl|(simp;done)|(simp[*];done),by repeat(first|exact Drawn0.refl _|apply Drawn0.step)⟩
def cS.f (k:Nat) (l0:List ByteArray) (a1:ByteArray):Option (Int × Bool):=(bR.f k l0).bind fun t101=> (if t101=0 then((aM.f k l0 a1).bind fun bt102=> (some (bt102.1,bt102.2)))else((bB.f k l0 a1).bind fun t104=> (some (mx t104 0,decide (t104≥0)))))
theorem cS.mono: ∀ a0 a1 k,LeO (cS.f k a0 a1) (cS.f (k+1) a0 a1):=by
  intro a0 a1 k
  unfold cS.f
  repeat' (with_reducible first|exact bR.mono _ _|exact aM.mono _ _ _|exact bB.mono _ _ _|exact LeO.refl _|exact LeO.none _|refine LeO.ite ?_ ?_|refine LeO.bind ?_ (fun _=>?_))
theorem cS.calls (k:Nat) (A0:Option Addr) (c0:Nat) (l0:List ByteArray) (a1:ByteArray) (r1:Int) (r2:Bool) (w:World) (hr0:Kd.C Kd.string w A0 l0.length l0) (hc0:l0.length≤c0) (h:cS.f k l0 a1=some (r1,r2)):
  Calls Try.prog 130 #[.slice A0 l0.length c0,.string a1] w fun e w'=>e= .returned (.tuple #[.int .i64 r1,.bool r2])∧Below w.heap.size w w':=by
 have HR0:=zA hr0
 have HC0:=zA hc0
 clear hr0 hc0
 have HB:=zA (Below.refl w.heap.size w)
 have H:((bR.f k l0).bind fun t101=> (if t101=0 then((aM.f k l0 a1).bind fun bt102=> (some (bt102.1,bt102.2)))else((bB.f k l0 a1).bind fun t104=> (some (mx t104 0,decide (t104≥0))))))=some (r1,r2):=h
 clear h
 obtain⟨t101,A3,H⟩:=qD_ H
 (try dsimp only at H)
 by_cases c4:t101=0
 ·rw[if_pos c4] at H
  have c4b0:(t101==0)=true:=beq_iff_eq.mpr c4;have c4b1:(t101 != 0)=false:=bne_eq_false_iff_eq.mpr c4;clear c4;obtain⟨⟨t102,t103⟩,A5,H⟩:=qD_ H;(try dsimp only at H);simp only[zNq,zOq] at H;obtain⟨rfl,rfl⟩:=H;go_enter Try.func130,Try.ntmps130;go_wp2_with (first|((with_reducible refine zJq (f:=119) rfl ?_);refine goesL_ (some 8) rfl rfl Try.func119 (by kernel_rfl) rfl #[.slice A0 l0.length c0] rfl qG ?_;(with_reducible refine(bR.calls k _ _ l0 t101 _ ?side1 ?side2 A3.out).mono ?_);(case side1=>repeat(first|exact HR0.out|(with_reducible refine Kd.C_alloc ?_ _)|(with_reducible refine Kd.C_drewN ?_ _)|(with_reducible refine Kd.C_drew ?_)));(case side2=>exact HC0.out);rintro e w6 ⟨rfl,hb⟩;refine⟨_,rfl,?_⟩;replace HB:=zA (zV qB hb);(try clear hb))|((with_reducible refine zJq (f:=145) rfl ?_);refine goesL_ (some 12) rfl rfl Try.func145 (by kernel_rfl) rfl #[.slice A0 l0.length c0,.string a1] rfl qG ?_;(with_reducible refine(aM.calls k _ _ l0 a1 t102 t103 _ ?side1 ?side2 A5.out).mono ?_);(case side1=>exact qC (Kd.C_below HR0.out HB.out));(case side2=>exact HC0.out);rintro e w' ⟨rfl,⟨nd,rfl⟩⟩;refine⟨_,rfl,?_⟩));go_ret2;exact⟨qE,qB⟩
 rw[if_neg c4] at H
 have c4b0:(t101==0)=false:=beq_eq_false_iff_ne.mpr c4
 have c4b1:(t101 != 0)=true:=bne_iff_ne.mpr c4
 obtain⟨t104,A7,H⟩:=qD_ H
 (try dsimp only at H)
 obtain⟨ji8,hji8⟩: ∃ j_:Int,(mx t104 0)=j_:=⟨_,rfl⟩
 replace H:(some (ji8,decide (t104≥0)))=some (r1,r2):=by first|(rw[hji8] at H;exact H)|(simp only[hji8] at H⊢;exact H)
 (try rw[hji8] at A3)
 (try rw[hji8] at A7)
 (try(have hji8l:0≤ji8:=by(rw[←hji8];unfold mx;(repeat' split) <;> omega)))
 (try(have hji8m:0≤ji8:=by omega))
 have hji8_:(if t104 < 0 then 0 else t104)=ji8:=hji8
 simp only[zNq,zOq] at H
 obtain⟨rfl,rfl⟩:=H
 go_enter Try.func130,Try.ntmps130
 go_wp2_with (first|((with_reducible refine zJq (f:=119) rfl ?_);refine goesL_ (some 8) rfl rfl Try.func119 (by kernel_rfl) rfl #[.slice A0 l0.length c0] rfl qG ?_;(with_reducible refine(bR.calls k _ _ l0 t101 _ ?side1 ?side2 A3.out).mono ?_);(case side1=>repeat(first|exact HR0.out|(with_reducible refine Kd.C_alloc ?_ _)|(with_reducible refine Kd.C_drewN ?_ _)|(with_reducible refine Kd.C_drew ?_)));(case side2=>exact HC0.out);rintro e w9 ⟨rfl,hb⟩;refine⟨_,rfl,?_⟩;replace HB:=zA (zV qB hb);(try clear hb))|((with_reducible refine zJq (f:=146) rfl ?_);refine goesL_ (some 17) rfl rfl Try.func146 (by kernel_rfl) rfl #[.slice A0 l0.length c0,.string a1] rfl qG ?_;(with_reducible refine(bB.calls k _ _ l0 a1 t104 _ ?side1 ?side2 A7.out).mono ?_);(case side1=>exact qC (Kd.C_below HR0.out HB.out));(case side2=>exact HC0.out);rintro e w' ⟨rfl,⟨nd,rfl⟩⟩;refine⟨_,rfl,?_⟩))
 go_ret2
 exact⟨by first|rfl|(simp[errW_none,errW_some] <;> rfl)|(simp only[←hji8];first|rfl|(simp[errW_none,errW_some] <;> rfl))|(simp[*,errW_none,errW_some] <;> rfl),qB⟩
def bU.l0:Nat→Int→List (S71)→Int→Int→Option (Int × Int)
  |0,_,_,_,_=>none
  |k+1,x4,x9,x10,x11=>if x11 < x10 then(if 0≤x11 then(if x11 < (x9.length:Int)then((aZ.f k (([x4,(rd_T71 x9 x11).f2,(rd_T71 x9 x11).f3] :List Int))).bind fun bt106=> (if bt106.2=0 then(bU.l0 k bt106.1 x9 x10 (wrap64 (x11+1)))else(some (0,bt106.2))))else(none))else(none))else(some (x4,0))
def bU.f (k:Nat) (l0:List (S71)):Option (Int × Int):=bU.l0 k 0 l0 (l0.length:Int) 0
theorem bU.mono_l: ∀ k,(∀ y0 y1 y2 y3,LeO (bU.l0 k y0 y1 y2 y3) (bU.l0 (k+1) y0 y1 y2 y3))
  |0=>fun _ _ _ _ r h=>by simp[bU.l0] at h
  |k+1=>by
    have ih0:=bU.mono_l k
    intro y0 y1 y2 y3
    unfold bU.l0
    repeat' (with_reducible first|exact ih0 _ _ _ _|exact aZ.mono _ _|exact LeO.refl _|exact LeO.none _|refine LeO.ite ?_ ?_|refine LeO.bind ?_ (fun _=>?_))
theorem bU.mono: ∀ a0 k,LeO (bU.f k a0) (bU.f (k+1) a0):=by
  intro a0 k
  have ih0:=bU.mono_l k
  unfold bU.f
  repeat' (with_reducible first|exact ih0 _ _ _ _|exact aZ.mono _ _|exact LeO.refl _|exact LeO.none _|refine LeO.ite ?_ ?_|refine LeO.bind ?_ (fun _=>?_))
theorem bU.calls (k:Nat) (A0:Option Addr) (c0:Nat) (l0:List (S71)) (r1:Int) (r2:Int) (w:World) (hr0:Kd.C k71 w A0 l0.length l0) (hc0:l0.length≤c0) (h:bU.f k l0=some (r1,r2)):
  Calls Try.prog 131 #[.slice A0 l0.length c0] w fun e w'=>e= .returned (.tuple #[.int .i64 r1,.int .i64 r2])∧Below w.heap.size w w':=by
 have hu71:=Try.underlying71
 have HR0:=zA hr0
 have HC0:=zA hc0
 clear hr0 hc0
 have HB:=zA (Below.refl w.heap.size w)
 have H:(bU.l0 k 0 l0 (l0.length:Int) 0)=some (r1,r2):=h
 clear h
 have H':=zA H
 clear H
 go_enter Try.func131,Try.ntmps131
 go_wp2
 go_loopg[4,11] k (fun kq v4 v11 w'=> ∃ (x4_1:Int) (x11_1:Int),v4= .int .i64 x4_1∧v11= .int .i64 x11_1∧Aside0 (bU.l0 kq x4_1 l0 (l0.length:Int) x11_1=some (r1,r2))∧Aside0 (kq≤k)∧Aside0 (Below w.heap.size w w'))
 case atStart=>exact⟨(0),(0),qF_,qF_,H',⟨Nat.le_refl _⟩,⟨qB⟩⟩
 case round=>
  clear H';try clear c1
  obtain⟨x4_1,x11_1,rfl,rfl,HA,HK1,HB⟩:=hrel;cases gk with
  |zero=>exact absurd HA.out (by simp[bU.l0])
  |succ k1=>
   have H:=HA.out;clear HA;simp only[bU.l0] at H;by_cases c2:x11_1 < (l0.length:Int)
   ·rw[if_pos c2] at H
    have c2b0:=zFq c2;clear c2;by_cases c3:0≤x11_1
    ·rw[if_pos c3] at H
     have c3b0:=zFq c3;clear c3;by_cases c4:x11_1 < (l0.length:Int)
     ·rw[if_pos c4] at H
      have c4b0:=zFq c4;clear c4;obtain⟨y103,hy103⟩: ∃ y_:List Int,y_=(([x4_1,(rd_T71 l0 x11_1).f2,(rd_T71 l0 x11_1).f3] :List Int)):=⟨_,rfl⟩
      replace H:((aZ.f k1 y103).bind fun bt106=> (if bt106.2=0 then(bU.l0 k1 bt106.1 l0 (l0.length:Int) (wrap64 (x11_1+1)))else(some (0,bt106.2))))=some (r1,r2):=by first|(rw[hy103];with_reducible exact H)|(have H2_:=(Option.bind_some _ _).symm.trans H;rw[hy103];with_reducible exact H2_)|(have H2_:=(Option.bind_some _ _).symm.trans H;with_reducible exact H2_)|with_reducible exact H|(rw[hy103];exact H)|exact H
      have Ny103:=zA hy103;clear hy103;obtain⟨⟨t106,t107⟩,A5,H⟩:=qD_ H;(try dsimp only at H);by_cases c6:t107=0
      ·rw[if_pos c6] at H
       have c6b0:(t107==0)=true:=beq_iff_eq.mpr c6;have c6b1:(t107 != 0)=false:=bne_eq_false_iff_eq.mpr c6;clear c6;have H':=zA H;clear H;have p101:0≤(x11_1:Int):=qO_;have q101:x11_1 < (l0.length:Int):=qO_;obtain⟨ad101,A101_4,c101_4,e101,hx101_0,hx101_1,hx101_2,hx101_3,hx101_4,hl101_4,hi101_4⟩:=at_T71 HR0.out x11_1 p101 q101;cases e101
       replace hx101_0:=qU_ hx101_0;replace hx101_1:=qU_ hx101_1;replace hx101_2:=qU_ hx101_2;replace hx101_3:=qU_ hx101_3;replace hx101_4:=qU_ hx101_4;have HR101_4:=zA hi101_4;have HC101_4:=zA hl101_4;clear hi101_4 hl101_4;replace p101:=eq_true p101;replace q101:=eq_true q101;go_wp2_with (first|((with_reducible refine gate_dst (N:=6) rfl ?_);refine box_event qr (N:=6) qr (cs:= #[.int .i64 0,.int .i64 0,.int .i64 0,.int .i64 0,.slice none 0 0]) (t:=71) qg ?_;intro gb102 hg w7 hbox hb;have BK102:=zA (hbox);have GW102:=zA ((qS:w.heap.size≤gb102));have GE102:=zA ((qS:w.heap.size≤gb102));replace HB:=zA (zV qB hb);clear hb hbox hg;obtain⟨_,_,_,_,_,_,_,_,_,_⟩:=qc5f BK102.out)|((with_reducible refine gate_dst (N:=21) rfl ?_);refine Kd.R_lit (Kd.int .i64) _ 3 ?hg (N:=21) ?hd (xs:=([x4_1,(rd_T71 l0 x11_1).f2,(rd_T71 l0 x11_1).f3] :List Int)) (inner:=[.int .i64 x4_1,.int .i64 ((rd_T71 l0 x11_1).f2),.int .i64 ((rd_T71 l0 x11_1).f3)]) (ok:=fun _=>True) (okp:=fun _=>True) ?hr ?hp (fun _ hk=>hk) trivial (Below.refl _ _) (Nat.le_refl _) (by simp) ?_;(case hd=>rfl);(case hg=>rfl);(case hr=>first|(go_simp;done)|(go_simp;rfl));(case hp=>exact(Reps.one (show Kd.M (Kd.int .i64) _ _ _ x4_1 [.int .i64 x4_1] from rfl) (Reps.one (show Kd.M (Kd.int .i64) _ _ _ ((rd_T71 l0 x11_1).f2) [.int .i64 ((rd_T71 l0 x11_1).f2)] from rfl) (Reps.one (show Kd.M (Kd.int .i64) _ _ _ ((rd_T71 l0 x11_1).f3) [.int .i64 ((rd_T71 l0 x11_1).f3)] from rfl) (Reps.none _ _)))));intro v104 w9 ho10 hb hg_ hnew_;clear hg_ hnew_;(first|rw[←Ny103.out] at ho10|(simp only[Int.reduceToNat] at ho10;rw[←Ny103.out] at ho10));have HO105:=zA (Kd.R_lower ho10 (zW qB));replace BK102:=zA (zX (g:=gb102) (o:= .cells #[.int .i64 ((rd_T71 l0 x11_1).f0),.int .i64 ((rd_T71 l0 x11_1).f1),.int .i64 ((rd_T71 l0 x11_1).f2),.int .i64 ((rd_T71 l0 x11_1).f3),.slice A101_4 ((rd_T71 l0 x11_1).f4).length c101_4] 71 (0,0)) (qV BK102.out) hb);replace HB:=zA (zV qB hb);clear hb ho10;obtain⟨Ao11,co11,eo11⟩:=Kd.R_slice HO105.out;subst eo11)|((with_reducible refine zJq (f:=25) rfl ?_);refine goesL_ (some 22) rfl rfl Try.func25 (by kernel_rfl) rfl #[.slice Ao11 y103.length co11] rfl qG ?_;(with_reducible refine(aZ.calls k1 _ _ y103 t106 t107 _ ?side1 ?side2 A5.out).mono ?_);(case side1=>repeat(first|exact(Kd.R_reads' HO105.out).2.2|(with_reducible refine Kd.C_alloc ?_ _)|(with_reducible refine Kd.C_drewN ?_ _)|(with_reducible refine Kd.C_drew ?_)));(case side2=>exact(Kd.R_reads' HO105.out).2.1);rintro e w' ⟨rfl,⟨nd,rfl⟩⟩;refine⟨_,rfl,?_⟩))
       go_roundg k1
       case measure=>have:=HK1.out;omega
       case rel=>exact⟨(t106),(wrap64 (x11_1+1)),qF_,qF_,H',⟨by have:=HK1.out;omega⟩,⟨qB⟩⟩
      rw[if_neg c6] at H;have c6b0:(t107==0)=false:=beq_eq_false_iff_ne.mpr c6;have c6b1:(t107 != 0)=true:=bne_iff_ne.mpr c6;simp only[zNq,zOq] at H;obtain⟨rfl,rfl⟩:=H;have p101:0≤(x11_1:Int):=qO_;have q101:x11_1 < (l0.length:Int):=qO_;obtain⟨ad101,A101_4,c101_4,e101,hx101_0,hx101_1,hx101_2,hx101_3,hx101_4,hl101_4,hi101_4⟩:=at_T71 HR0.out x11_1 p101 q101;cases e101
      replace hx101_0:=qU_ hx101_0;replace hx101_1:=qU_ hx101_1;replace hx101_2:=qU_ hx101_2;replace hx101_3:=qU_ hx101_3;replace hx101_4:=qU_ hx101_4;have HR101_4:=zA hi101_4;have HC101_4:=zA hl101_4;clear hi101_4 hl101_4;replace p101:=eq_true p101;replace q101:=eq_true q101;go_wp2_with (first|((with_reducible refine gate_dst (N:=6) rfl ?_);refine box_event qr (N:=6) qr (cs:= #[.int .i64 0,.int .i64 0,.int .i64 0,.int .i64 0,.slice none 0 0]) (t:=71) qg ?_;intro gb102 hg w12 hbox hb;have BK102:=zA (hbox);have GW102:=zA ((qS:w.heap.size≤gb102));have GE102:=zA ((qS:w.heap.size≤gb102));replace HB:=zA (zV qB hb);clear hb hbox hg;obtain⟨_,_,_,_,_,_,_,_,_,_⟩:=qc5f BK102.out)|((with_reducible refine gate_dst (N:=21) rfl ?_);refine Kd.R_lit (Kd.int .i64) _ 3 ?hg (N:=21) ?hd (xs:=([x4_1,(rd_T71 l0 x11_1).f2,(rd_T71 l0 x11_1).f3] :List Int)) (inner:=[.int .i64 x4_1,.int .i64 ((rd_T71 l0 x11_1).f2),.int .i64 ((rd_T71 l0 x11_1).f3)]) (ok:=fun _=>True) (okp:=fun _=>True) ?hr ?hp (fun _ hk=>hk) trivial (Below.refl _ _) (Nat.le_refl _) (by simp) ?_;(case hd=>rfl);(case hg=>rfl);(case hr=>first|(go_simp;done)|(go_simp;rfl));(case hp=>exact(Reps.one (show Kd.M (Kd.int .i64) _ _ _ x4_1 [.int .i64 x4_1] from rfl) (Reps.one (show Kd.M (Kd.int .i64) _ _ _ ((rd_T71 l0 x11_1).f2) [.int .i64 ((rd_T71 l0 x11_1).f2)] from rfl) (Reps.one (show Kd.M (Kd.int .i64) _ _ _ ((rd_T71 l0 x11_1).f3) [.int .i64 ((rd_T71 l0 x11_1).f3)] from rfl) (Reps.none _ _)))));intro v104 w14 ho15 hb hg_ hnew_;clear hg_ hnew_;(first|rw[←Ny103.out] at ho15|(simp only[Int.reduceToNat] at ho15;rw[←Ny103.out] at ho15));have HO105:=zA (Kd.R_lower ho15 (zW qB));replace BK102:=zA (zX (g:=gb102) (o:= .cells #[.int .i64 ((rd_T71 l0 x11_1).f0),.int .i64 ((rd_T71 l0 x11_1).f1),.int .i64 ((rd_T71 l0 x11_1).f2),.int .i64 ((rd_T71 l0 x11_1).f3),.slice A101_4 ((rd_T71 l0 x11_1).f4).length c101_4] 71 (0,0)) (qV BK102.out) hb);replace HB:=zA (zV qB hb);clear hb ho15;obtain⟨Ao16,co16,eo16⟩:=Kd.R_slice HO105.out;subst eo16)|((with_reducible refine zJq (f:=25) rfl ?_);refine goesL_ (some 22) rfl rfl Try.func25 (by kernel_rfl) rfl #[.slice Ao16 y103.length co16] rfl qG ?_;(with_reducible refine(aZ.calls k1 _ _ y103 t106 t107 _ ?side1 ?side2 A5.out).mono ?_);(case side1=>repeat(first|exact(Kd.R_reads' HO105.out).2.2|(with_reducible refine Kd.C_alloc ?_ _)|(with_reducible refine Kd.C_drewN ?_ _)|(with_reducible refine Kd.C_drew ?_)));(case side2=>exact(Kd.R_reads' HO105.out).2.1);rintro e w' ⟨rfl,⟨nd,rfl⟩⟩;refine⟨_,rfl,?_⟩))
      go_ret2;exact⟨qE,qB⟩
     rw[if_neg c4] at H;exact absurd H (by simp)
    rw[if_neg c3] at H;exact absurd H (by simp)
   rw[if_neg c2] at H;have c2b0:=zGq c2;clear c2;simp only[zNq,zOq] at H;obtain⟨rfl,rfl⟩:=H;go_wp2;go_ret2;exact⟨qE,qB⟩
mutual
def aT.j0:Nat→Bool→Int→Int→List (S71)→Option (Int)
  |0,_,_,_,_=>none
  |k+1,x32,x102000,x102001,x102002=>if x32=true then(some 40)else(aT.l0 k x102002 (x102002.length:Int) 0 x102000 x102001 x102002)
def aT.l0:Nat→List (S71)→Int→Int→Int→Int→List (S71)→Option (Int)
  |0,_,_,_,_,_,_=>none
  |k+1,x34,x35,x36,x102000,x102001,x102002=>if x36 < x35 then(if 0≤x36 then(if x36 < (x34.length:Int)then((bJ.f k ((rd_T71 x34 x36).f0) ((rd_T71 x34 x36).f1) ((rd_T71 x34 x36).f2) ((rd_T71 x34 x36).f3) ((rd_T71 x34 x36).f4)).bind fun t105=> (if t105=0 then(aT.l0 k x34 x35 (wrap64 (x36+1)) x102000 x102001 x102002)else(some 40)))else(none))else(none))else((bU.f k x102002).bind fun bt106=> (if bt106.2=0 then((cN.f x102002).bind fun t108=> (if t108=true then(some 40)else(some 0)))else(some 40)))
end
def aT.f (k:Nat) (a0_0:Int) (a0_1:Int) (l0_2:List (S71)):Option (Int):=if a0_0 < 1 then(aT.j0 k true a0_0 a0_1 l0_2)else(if a0_0 > 999999 then(aT.j0 k true a0_0 a0_1 l0_2)else((cQ.f a0_1).bind fun t102=> (if t102=true then(if(l0_2.length:Int) < 1 then(aT.j0 k true a0_0 a0_1 l0_2)else(aT.j0 k (decide ((l0_2.length:Int) > 8)) a0_0 a0_1 l0_2))else(aT.j0 k true a0_0 a0_1 l0_2))))
theorem aT.mono_l: ∀ k,(∀ y0 y1 y2 y3,LeO (aT.j0 k y0 y1 y2 y3) (aT.j0 (k+1) y0 y1 y2 y3))∧(∀ y0 y1 y2 y3 y4 y5,LeO (aT.l0 k y0 y1 y2 y3 y4 y5) (aT.l0 (k+1) y0 y1 y2 y3 y4 y5))
  |0=> ⟨fun _ _ _ _ r h=>by simp[aT.j0] at h,fun _ _ _ _ _ _ r h=>by simp[aT.l0] at h⟩
  |k+1=>by
    obtain⟨ih0,ih1⟩:=aT.mono_l k
    refine⟨?_,?_⟩
    · intro y0 y1 y2 y3
      unfold aT.j0
      repeat' (with_reducible first|exact ih0 _ _ _ _|exact ih1 _ _ _ _ _ _|exact bJ.mono _ _ _ _ _ _|exact bU.mono _ _|exact LeO.refl _|exact LeO.none _|refine LeO.ite ?_ ?_|refine LeO.bind ?_ (fun _=>?_))
    intro y0 y1 y2 y3 y4 y5
    unfold aT.l0
    repeat' (with_reducible first|exact ih0 _ _ _ _|exact ih1 _ _ _ _ _ _|exact bJ.mono _ _ _ _ _ _|exact bU.mono _ _|exact LeO.refl _|exact LeO.none _|refine LeO.ite ?_ ?_|refine LeO.bind ?_ (fun _=>?_))
theorem aT.mono: ∀ a0 a1 a2 k,LeO (aT.f k a0 a1 a2) (aT.f (k+1) a0 a1 a2):=by
  intro a0 a1 a2 k
  obtain⟨ih0,ih1⟩:=aT.mono_l k
  unfold aT.f
  repeat' (with_reducible first|exact ih0 _ _ _ _|exact ih1 _ _ _ _ _ _|exact bJ.mono _ _ _ _ _ _|exact bU.mono _ _|exact LeO.refl _|exact LeO.none _|refine LeO.ite ?_ ?_|refine LeO.bind ?_ (fun _=>?_))
theorem aT.calls (k:Nat) (a0_0:Int) (a0_1:Int) (A0_2:Option Addr) (c0_2:Nat) (l0_2:List (S71)) (r:Int) (w:World) (hr0_2:Kd.C k71 w A0_2 l0_2.length l0_2) (hc0_2:l0_2.length≤c0_2) (h:aT.f k a0_0 a0_1 l0_2=some r):
  Calls Try.prog 90 #[.agg #[.int .i64 a0_0,.int .i64 a0_1,.slice A0_2 l0_2.length c0_2]] w fun e w'=>e= .returned (.int .i64 r)∧Below w.heap.size w w':=by
 have hu99:=Try.underlying99
 have hu71:=Try.underlying71
 have HR0_2:=zA hr0_2
 have HC0_2:=zA hc0_2
 clear hr0_2 hc0_2
 have HB:=zA (Below.refl w.heap.size w)
 have H:(if a0_0 < 1 then(aT.j0 k true a0_0 a0_1 l0_2)else(if a0_0 > 999999 then(aT.j0 k true a0_0 a0_1 l0_2)else((cQ.f a0_1).bind fun t102=> (if t102=true then(if(l0_2.length:Int) < 1 then(aT.j0 k true a0_0 a0_1 l0_2)else(aT.j0 k (decide ((l0_2.length:Int) > 8)) a0_0 a0_1 l0_2))else(aT.j0 k true a0_0 a0_1 l0_2)))))=some r:=h
 clear h
 have HC2:=zA H
 clear H
 go_enter Try.func90,Try.ntmps90
 go_upto_region 1 with(first|((with_reducible refine gate_dst (N:=1) rfl ?_);(try(refine gate_guard (by rfl) ?_;dsimp only));refine box_event qr (N:=1) qr (cs:= #[.int .i64 a0_0,.int .i64 a0_1,.slice A0_2 l0_2.length c0_2]) (t:=99) qg ?_;intro gb101 hg w3 hbox hb;have BK101:=zA (hbox);have GW101:=zA ((qS:w.heap.size≤gb101));have GE101:=zA ((qS:w.heap.size≤gb101));replace HB:=zA (zV qB hb);clear hb hbox hg))
 (try simp only[Act.put,zH,zI,zJ])
 go_cut[32] (fun v32 wc=> ∃ (kq:Nat) (x32_1:Bool),v32= .bool x32_1∧Aside0 (aT.j0 kq x32_1 a0_0 a0_1 l0_2=some r)∧Aside0 (kq≤k)∧Aside0 (wc.heap[gb101]? =some (.cells #[.int .i64 a0_0,.int .i64 a0_1,(.slice A0_2 l0_2.length c0_2)] 99 (0,0)))∧Aside0 (Below w.heap.size w wc))
 case first=>
  have H:=HC2.out;clear HC2;by_cases c4:a0_0 < 1
  ·rw[if_pos c4] at H
   have c4b0:=zFq c4;clear c4;(first|rw[c4b0] |(simp only[i64_w,i32_w];rw[c4b0])|skip)
   have H':=zA H;clear H;obtain⟨_,_,_,_,_,_⟩:=qc3f BK101.out;go_wp2;go_meet
   case rel=>exact⟨_,(true),qF_,H',⟨by first|omega|exact Nat.le_refl _⟩,⟨by exact BK101.out⟩,⟨qB⟩⟩
  rw[if_neg c4] at H;have c4b0:=zGq c4;clear c4;(first|rw[c4b0] |(simp only[i64_w,i32_w];rw[c4b0])|skip)
  by_cases c6:a0_0 > 999999
  ·rw[if_pos c6] at H
   have c6b0:decide (999999 < a0_0)=true:=zFq c6;clear c6;have H':=zA H;clear H;obtain⟨_,_,_,_,_,_⟩:=qc3f BK101.out;go_wp2;go_meet
   case rel=>exact⟨_,(true),qF_,H',⟨by first|omega|exact Nat.le_refl _⟩,⟨by exact BK101.out⟩,⟨qB⟩⟩
  rw[if_neg c6] at H;have c6b0:decide (999999 < a0_0)=false:=zGq c6;clear c6;obtain⟨t102,A8,H⟩:=qD_ H;(try dsimp only at H);by_cases c9:t102=true
  ·subst c9
   have H1:(if(l0_2.length:Int) < 1 then(aT.j0 k true a0_0 a0_1 l0_2)else(aT.j0 k (decide ((l0_2.length:Int) > 8)) a0_0 a0_1 l0_2))=some r:=by first|(rw[if_pos rfl] at H;exact H)|rfl
   clear H;have H:=H1;clear H1;by_cases c10:(l0_2.length:Int) < 1
   ·rw[if_pos c10] at H
    have c10b0:=zFq c10;have c10b1:decide (l0_2.length < 1)=true:=zFq (by omega);clear c10;have H':=zA H;clear H;obtain⟨_,_,_,_,_,_⟩:=qc3f BK101.out;go_wp2_with (first|(go_at_call 125;(with_reducible refine(cQ.calls a0_1 true _ A8.out).mono ?_);rintro e w12 ⟨rfl,hb⟩;replace BK101:=zA (qX BK101.out hb);replace HB:=zA (zV qB hb);(try clear hb);obtain⟨_,_,_,_,_,_⟩:=qc3f BK101.out));go_meet
    case rel=>exact⟨_,(true),qF_,H',⟨by first|omega|exact Nat.le_refl _⟩,⟨by exact BK101.out⟩,⟨qB⟩⟩
   rw[if_neg c10] at H;have c10b0:=zGq c10;have c10b1:decide (l0_2.length < 1)=false:=zGq (by omega);clear c10;have H':=zA H;clear H;obtain⟨_,_,_,_,_,_⟩:=qc3f BK101.out;go_wp2_with (first|(go_at_call 125;(with_reducible refine(cQ.calls a0_1 true _ A8.out).mono ?_);rintro e w15 ⟨rfl,hb⟩;replace BK101:=zA (qX BK101.out hb);replace HB:=zA (zV qB hb);(try clear hb);obtain⟨_,_,_,_,_,_⟩:=qc3f BK101.out));go_meet
   case rel=>exact⟨_,(decide ((l0_2.length:Int) > 8)),qF_,H',⟨by first|omega|exact Nat.le_refl _⟩,⟨by exact BK101.out⟩,⟨qB⟩⟩
  replace c9:=Bool.eq_false_iff.mpr c9;subst c9;have H1:(aT.j0 k true a0_0 a0_1 l0_2)=some r:=by first|(rw[if_neg (show ¬ (false=true) by decide)] at H;exact H)|rfl
  clear H;have H:=H1;clear H1;have H':=zA H;clear H;obtain⟨_,_,_,_,_,_⟩:=qc3f BK101.out;go_wp2_with (first|(go_at_call 125;(with_reducible refine(cQ.calls a0_1 false _ A8.out).mono ?_);rintro e w18 ⟨rfl,hb⟩;replace BK101:=zA (qX BK101.out hb);replace HB:=zA (zV qB hb);(try clear hb)));go_meet
  case rel=>exact⟨_,(true),qF_,H',⟨by first|omega|exact Nat.le_refl _⟩,⟨by exact BK101.out⟩,⟨qB⟩⟩
 case rest=>
  clear HC2;try clear c1
  try clear p2
  try clear c4
  try clear c4b0
  try clear c6
  try clear c6b0
  try clear c9
  try clear c10
  try clear c10b0
  try clear c10b1
  obtain⟨kq,x32_1,rfl,HA,HJ1,BK101,HB⟩:=hcut;cases kq with
  |zero=>exact absurd HA.out (by simp[aT.j0])
  |succ kj1=>
   have H:=HA.out;clear HA;simp only[aT.j0] at H;by_cases c19:x32_1=true
   ·subst c19
    have H1:(some 40)=some r:=by first|(rw[if_pos rfl] at H;exact H)|rfl
    clear H;have H:=H1;clear H1;obtain rfl:=zKq H;go_wp2;go_ret;exact⟨qE,qB⟩
   replace c19:=Bool.eq_false_iff.mpr c19;subst c19;have H1:(aT.l0 kj1 l0_2 (l0_2.length:Int) 0 a0_0 a0_1 l0_2)=some r:=by first|(rw[if_neg (show ¬ (false=true) by decide)] at H;exact H)|rfl
   clear H;have H:=H1;clear H1;have H':=zA H;clear H;obtain⟨_,_,_,_,_,_⟩:=qc3f BK101.out;go_wp2;go_loopg[36] kj1 (fun kq v36 w'=> ∃ (x36_2:Int),v36= .int .i64 x36_2∧Aside0 (aT.l0 kq l0_2 (l0_2.length:Int) x36_2 a0_0 a0_1 l0_2=some r)∧Aside0 (kq≤kj1)∧Aside0 (w'.heap[gb101]? =some (.cells #[.int .i64 a0_0,.int .i64 a0_1,(.slice A0_2 l0_2.length c0_2)] 99 (0,0)))∧Aside0 (Below w.heap.size w w'))
   case atStart=>exact⟨(0),qF_,H',⟨Nat.le_refl _⟩,⟨by exact BK101.out⟩,⟨qB⟩⟩
   case round=>
    clear H';try clear c1
    try clear p2
    try clear c4
    try clear c4b0
    try clear c6
    try clear c6b0
    try clear c9
    try clear c10
    try clear c10b0
    try clear c10b1
    try clear c19
    try clear p2
    obtain⟨x36_2,rfl,HA,HK2,BK101,HB⟩:=hrel;cases gk with
    |zero=>exact absurd HA.out (by simp[aT.l0])
    |succ k2=>
     have H:=HA.out;clear HA;simp only[aT.l0] at H;by_cases c21:x36_2 < (l0_2.length:Int)
     ·rw[if_pos c21] at H
      have c21b0:=zFq c21;clear c21;by_cases c22:0≤x36_2
      ·rw[if_pos c22] at H
       have c22b0:=zFq c22;clear c22;by_cases c23:x36_2 < (l0_2.length:Int)
       ·rw[if_pos c23] at H
        have c23b0:=zFq c23;clear c23;obtain⟨t105,A24,H⟩:=qD_ H;(try dsimp only at H);by_cases c25:t105=0
        ·rw[if_pos c25] at H
         have c25b0:(t105==0)=true:=beq_iff_eq.mpr c25;have c25b1:(t105 != 0)=false:=bne_eq_false_iff_eq.mpr c25;clear c25;have H':=zA H;clear H;have p103:0≤(x36_2:Int):=qO_;have q103:x36_2 < (l0_2.length:Int):=qO_;obtain⟨ad103,A103_4,c103_4,e103,hx103_0,hx103_1,hx103_2,hx103_3,hx103_4,hl103_4,hi103_4⟩:=at_T71 HR0_2.out x36_2 p103 q103;cases e103
         replace hx103_0:=qU_ hx103_0;replace hx103_1:=qU_ hx103_1;replace hx103_2:=qU_ hx103_2;replace hx103_3:=qU_ hx103_3;replace hx103_4:=qU_ hx103_4;have HR103_4:=zA hi103_4;have HC103_4:=zA hl103_4;clear hi103_4 hl103_4;replace p103:=eq_true p103;replace q103:=eq_true q103;go_wp2_with (first|((with_reducible refine gate_dst (N:=4) rfl ?_);(try(refine gate_guard (by rfl) ?_;dsimp only));refine box_event qr (N:=4) qr (cs:= #[.int .i64 0,.int .i64 0,.int .i64 0,.int .i64 0,.slice none 0 0]) (t:=71) qg ?_;intro gb104 hg w26 hbox hb;have BK104:=zA (hbox);have GW104:=zA ((qS:w.heap.size≤gb104));have GE104:=zA ((qS:w.heap.size≤gb104));replace HB:=zA (zV qB hb);have NB101_104:=zA ((by rw[hg];exact zLq (qL BK101.out):gb101≠gb104));have NB104_101:=zA ((by rw[hg];exact zMq (qL BK101.out):gb104≠gb101));replace BK101:=zA (qX BK101.out hb);clear hb hbox hg;have hnb27:=NB104_101.out;have hnc27:=NB101_104.out;obtain⟨_,_,_,_,_,_,_,_,_,_⟩:=qc5f BK104.out)|((with_reducible refine zJq (f:=69) rfl ?_);refine goesL_ (some 41) rfl rfl Try.func69 (by kernel_rfl) rfl #[.agg #[.int .i64 ((rd_T71 l0_2 x36_2).f0),.int .i64 ((rd_T71 l0_2 x36_2).f1),.int .i64 ((rd_T71 l0_2 x36_2).f2),.int .i64 ((rd_T71 l0_2 x36_2).f3),.slice A103_4 ((rd_T71 l0_2 x36_2).f4).length c103_4]] rfl qG ?_;(with_reducible refine(bJ.calls k2 ((rd_T71 l0_2 x36_2).f0) ((rd_T71 l0_2 x36_2).f1) ((rd_T71 l0_2 x36_2).f2) ((rd_T71 l0_2 x36_2).f3) _ _ ((rd_T71 l0_2 x36_2).f4) t105 _ ?side1 ?side2 A24.out).mono ?_);(case side1=>exact Kd.C_below HR103_4.out qB);(case side2=>exact HC103_4.out);rintro e w29 ⟨rfl,hb⟩;refine⟨_,rfl,?_⟩;replace BK101:=zA (qX BK101.out hb);replace BK104:=zA (zX (g:=gb104) (o:= .cells #[.int .i64 ((rd_T71 l0_2 x36_2).f0),.int .i64 ((rd_T71 l0_2 x36_2).f1),.int .i64 ((rd_T71 l0_2 x36_2).f2),.int .i64 ((rd_T71 l0_2 x36_2).f3),.slice A103_4 ((rd_T71 l0_2 x36_2).f4).length c103_4] 71 (0,0)) (qV BK104.out) hb);replace HB:=zA (zV qB hb);(try clear hb)));go_roundg k2
         case measure=>have:=HJ1.out;have:=HK2.out;omega
         case rel=>exact⟨(wrap64 (x36_2+1)),qF_,H',⟨by have:=HJ1.out;have:=HK2.out;omega⟩,⟨by exact BK101.out⟩,⟨qB⟩⟩
        rw[if_neg c25] at H;have c25b0:(t105==0)=false:=beq_eq_false_iff_ne.mpr c25;have c25b1:(t105 != 0)=true:=bne_iff_ne.mpr c25;obtain rfl:=zKq H;have p103:0≤(x36_2:Int):=qO_;have q103:x36_2 < (l0_2.length:Int):=qO_;obtain⟨ad103,A103_4,c103_4,e103,hx103_0,hx103_1,hx103_2,hx103_3,hx103_4,hl103_4,hi103_4⟩:=at_T71 HR0_2.out x36_2 p103 q103;cases e103
        replace hx103_0:=qU_ hx103_0;replace hx103_1:=qU_ hx103_1;replace hx103_2:=qU_ hx103_2;replace hx103_3:=qU_ hx103_3;replace hx103_4:=qU_ hx103_4;have HR103_4:=zA hi103_4;have HC103_4:=zA hl103_4;clear hi103_4 hl103_4;replace p103:=eq_true p103;replace q103:=eq_true q103;go_wp2_with (first|((with_reducible refine gate_dst (N:=4) rfl ?_);(try(refine gate_guard (by rfl) ?_;dsimp only));refine box_event qr (N:=4) qr (cs:= #[.int .i64 0,.int .i64 0,.int .i64 0,.int .i64 0,.slice none 0 0]) (t:=71) qg ?_;intro gb104 hg w30 hbox hb;have BK104:=zA (hbox);have GW104:=zA ((qS:w.heap.size≤gb104));have GE104:=zA ((qS:w.heap.size≤gb104));replace HB:=zA (zV qB hb);have NB101_104:=zA ((by rw[hg];exact zLq (qL BK101.out):gb101≠gb104));have NB104_101:=zA ((by rw[hg];exact zMq (qL BK101.out):gb104≠gb101));replace BK101:=zA (qX BK101.out hb);clear hb hbox hg;have hnb31:=NB104_101.out;have hnc31:=NB101_104.out;obtain⟨_,_,_,_,_,_,_,_,_,_⟩:=qc5f BK104.out)|((with_reducible refine zJq (f:=69) rfl ?_);refine goesL_ (some 41) rfl rfl Try.func69 (by kernel_rfl) rfl #[.agg #[.int .i64 ((rd_T71 l0_2 x36_2).f0),.int .i64 ((rd_T71 l0_2 x36_2).f1),.int .i64 ((rd_T71 l0_2 x36_2).f2),.int .i64 ((rd_T71 l0_2 x36_2).f3),.slice A103_4 ((rd_T71 l0_2 x36_2).f4).length c103_4]] rfl qG ?_;(with_reducible refine(bJ.calls k2 ((rd_T71 l0_2 x36_2).f0) ((rd_T71 l0_2 x36_2).f1) ((rd_T71 l0_2 x36_2).f2) ((rd_T71 l0_2 x36_2).f3) _ _ ((rd_T71 l0_2 x36_2).f4) t105 _ ?side1 ?side2 A24.out).mono ?_);(case side1=>exact Kd.C_below HR103_4.out qB);(case side2=>exact HC103_4.out);rintro e w33 ⟨rfl,hb⟩;refine⟨_,rfl,?_⟩;replace BK101:=zA (qX BK101.out hb);replace BK104:=zA (zX (g:=gb104) (o:= .cells #[.int .i64 ((rd_T71 l0_2 x36_2).f0),.int .i64 ((rd_T71 l0_2 x36_2).f1),.int .i64 ((rd_T71 l0_2 x36_2).f2),.int .i64 ((rd_T71 l0_2 x36_2).f3),.slice A103_4 ((rd_T71 l0_2 x36_2).f4).length c103_4] 71 (0,0)) (qV BK104.out) hb);replace HB:=zA (zV qB hb);(try clear hb)));go_ret;exact⟨qE,qB⟩
       rw[if_neg c23] at H;exact absurd H (by simp)
      rw[if_neg c22] at H;exact absurd H (by simp)
     rw[if_neg c21] at H;have c21b0:=zGq c21;clear c21;obtain⟨⟨t106,t107⟩,A34,H⟩:=qD_ H;(try dsimp only at H);by_cases c35:t107=0
     ·rw[if_pos c35] at H
      have c35b0:(t107==0)=true:=beq_iff_eq.mpr c35;have c35b1:(t107 != 0)=false:=bne_eq_false_iff_eq.mpr c35;clear c35;obtain⟨t108,A36,H⟩:=qD_ H;(try dsimp only at H);by_cases c37:t108=true
      ·subst c37
       have H1:(some 40)=some r:=by first|(rw[if_pos rfl] at H;exact H)|rfl
       clear H;have H:=H1;clear H1;obtain rfl:=zKq H;obtain⟨_,_,_,_,_,_⟩:=qc3f BK101.out;go_wp2_with (first|((with_reducible refine zJq (f:=131) rfl ?_);refine goesL_ (some 47) rfl rfl Try.func131 (by kernel_rfl) rfl #[.slice A0_2 l0_2.length c0_2] rfl qG ?_;(with_reducible refine(bU.calls k2 _ _ l0_2 t106 t107 _ ?side1 ?side2 A34.out).mono ?_);(case side1=>exact qC (Kd.C_below HR0_2.out HB.out));(case side2=>exact HC0_2.out);rintro e w39 ⟨rfl,hb⟩;refine⟨_,rfl,?_⟩;replace BK101:=zA (qX BK101.out hb);replace HB:=zA (zV qB hb);(try clear hb);obtain⟨_,_,_,_,_,_⟩:=qc3f BK101.out)|(go_at_call 126;(with_reducible refine(cN.calls _ _ l0_2 true _ ?side1 ?side2 A36.out).mono ?_);(case side1=>exact qC (Kd.C_below HR0_2.out HB.out));(case side2=>exact HC0_2.out);rintro e w41 ⟨rfl,hb⟩;replace BK101:=zA (qX BK101.out hb);replace HB:=zA (zV qB hb);(try clear hb)));go_ret;exact⟨qE,qB⟩
      replace c37:=Bool.eq_false_iff.mpr c37;subst c37;have H1:(some 0)=some r:=by first|(rw[if_neg (show ¬ (false=true) by decide)] at H;exact H)|rfl
      clear H;have H:=H1;clear H1;obtain rfl:=zKq H;obtain⟨_,_,_,_,_,_⟩:=qc3f BK101.out;go_wp2_with (first|((with_reducible refine zJq (f:=131) rfl ?_);refine goesL_ (some 47) rfl rfl Try.func131 (by kernel_rfl) rfl #[.slice A0_2 l0_2.length c0_2] rfl qG ?_;(with_reducible refine(bU.calls k2 _ _ l0_2 t106 t107 _ ?side1 ?side2 A34.out).mono ?_);(case side1=>exact qC (Kd.C_below HR0_2.out HB.out));(case side2=>exact HC0_2.out);rintro e w43 ⟨rfl,hb⟩;refine⟨_,rfl,?_⟩;replace BK101:=zA (qX BK101.out hb);replace HB:=zA (zV qB hb);(try clear hb);obtain⟨_,_,_,_,_,_⟩:=qc3f BK101.out)|(go_at_call 126;(with_reducible refine(cN.calls _ _ l0_2 false _ ?side1 ?side2 A36.out).mono ?_);(case side1=>exact qC (Kd.C_below HR0_2.out HB.out));(case side2=>exact HC0_2.out);rintro e w45 ⟨rfl,hb⟩;replace BK101:=zA (qX BK101.out hb);replace HB:=zA (zV qB hb);(try clear hb)));go_ret;exact⟨qE,qB⟩
     rw[if_neg c35] at H;have c35b0:(t107==0)=false:=beq_eq_false_iff_ne.mpr c35;have c35b1:(t107 != 0)=true:=bne_iff_ne.mpr c35;obtain rfl:=zKq H;obtain⟨_,_,_,_,_,_⟩:=qc3f BK101.out;go_wp2_with (first|((with_reducible refine zJq (f:=131) rfl ?_);refine goesL_ (some 47) rfl rfl Try.func131 (by kernel_rfl) rfl #[.slice A0_2 l0_2.length c0_2] rfl qG ?_;(with_reducible refine(bU.calls k2 _ _ l0_2 t106 t107 _ ?side1 ?side2 A34.out).mono ?_);(case side1=>exact qC (Kd.C_below HR0_2.out HB.out));(case side2=>exact HC0_2.out);rintro e w47 ⟨rfl,hb⟩;refine⟨_,rfl,?_⟩;replace BK101:=zA (qX BK101.out hb);replace HB:=zA (zV qB hb);(try clear hb)));go_ret;exact⟨qE,qB⟩
def cE.l0:Nat→ByteArray→List (S71)→Int→Int→Option (Int × Int × Bool)
  |0,_,_,_,_=>none
  |k+1,x1,x15,x16,x17=>if x17 < x16 then(if 0≤x17 then(if x17 < (x15.length:Int)then((cS.f k ((rd_T71 x15 x17).f4) x1).bind fun bt105=> (if bt105.2=true then(some (x17,bt105.1,true))else(cE.l0 k x1 x15 x16 (wrap64 (x17+1)))))else(none))else(none))else(some (0,0,false))
def cE.f (k:Nat) (a0_0:Int) (a0_1:Int) (l0_2:List (S71)) (a1:ByteArray):Option (Int × Int × Bool):=(aT.f k a0_0 a0_1 l0_2).bind fun t102=> (if t102=0 then(cE.l0 k a1 l0_2 (l0_2.length:Int) 0)else(some (0,0,false)))
theorem cE.mono_l: ∀ k,(∀ y0 y1 y2 y3,LeO (cE.l0 k y0 y1 y2 y3) (cE.l0 (k+1) y0 y1 y2 y3))
  |0=>fun _ _ _ _ r h=>by simp[cE.l0] at h
  |k+1=>by
    have ih0:=cE.mono_l k
    intro y0 y1 y2 y3
    unfold cE.l0
    repeat' (with_reducible first|exact ih0 _ _ _ _|exact aT.mono _ _ _ _|exact cS.mono _ _ _|exact LeO.refl _|exact LeO.none _|refine LeO.ite ?_ ?_|refine LeO.bind ?_ (fun _=>?_))
theorem cE.mono: ∀ a0 a1 a2 a3 k,LeO (cE.f k a0 a1 a2 a3) (cE.f (k+1) a0 a1 a2 a3):=by
  intro a0 a1 a2 a3 k
  have ih0:=cE.mono_l k
  unfold cE.f
  repeat' (with_reducible first|exact ih0 _ _ _ _|exact aT.mono _ _ _ _|exact cS.mono _ _ _|exact LeO.refl _|exact LeO.none _|refine LeO.ite ?_ ?_|refine LeO.bind ?_ (fun _=>?_))
theorem cE.calls (k:Nat) (a0_0:Int) (a0_1:Int) (A0_2:Option Addr) (c0_2:Nat) (l0_2:List (S71)) (a1:ByteArray) (r1:Int) (r2:Int) (r3:Bool) (w:World) (hr0_2:Kd.C k71 w A0_2 l0_2.length l0_2) (hc0_2:l0_2.length≤c0_2) (h:cE.f k a0_0 a0_1 l0_2 a1=some (r1,r2,r3)):
  Calls Try.prog 86 #[.agg #[.int .i64 a0_0,.int .i64 a0_1,.slice A0_2 l0_2.length c0_2],.string a1] w fun e w'=>e= .returned (.tuple #[.int .i64 r1,.int .i64 r2,.bool r3])∧Below w.heap.size w w':=by
 have hu99:=Try.underlying99
 have hu71:=Try.underlying71
 have HR0_2:=zA hr0_2
 have HC0_2:=zA hc0_2
 clear hr0_2 hc0_2
 have HB:=zA (Below.refl w.heap.size w)
 have H:((aT.f k a0_0 a0_1 l0_2).bind fun t102=> (if t102=0 then(cE.l0 k a1 l0_2 (l0_2.length:Int) 0)else(some (0,0,false))))=some (r1,r2,r3):=h
 clear h
 obtain⟨t102,A3,H⟩:=qD_ H
 (try dsimp only at H)
 by_cases c4:t102=0
 ·rw[if_pos c4] at H
  have c4b0:(t102==0)=true:=beq_iff_eq.mpr c4;have c4b1:(t102 != 0)=false:=bne_eq_false_iff_eq.mpr c4;clear c4;have H':=zA H;clear H;go_enter Try.func86,Try.ntmps86;go_wp2_with (first|((with_reducible refine gate_dst (N:=2) rfl ?_);refine box_event qr (N:=2) qr (cs:= #[.int .i64 a0_0,.int .i64 a0_1,.slice A0_2 l0_2.length c0_2]) (t:=99) qg ?_;intro gb101 hg w5 hbox hb;have BK101:=zA (hbox);have GW101:=zA ((qS:w.heap.size≤gb101));have GE101:=zA ((qS:w.heap.size≤gb101));replace HB:=zA (zV qB hb);clear hb hbox hg;obtain⟨hcz6_0,hcz6_1,hcz6_2,hfz6_0,hfz6_1,hfz6_2⟩:=qc3f BK101.out)|((with_reducible refine zJq (f:=90) rfl ?_);refine goesL_ (some 12) rfl rfl Try.func90 (by kernel_rfl) rfl #[.agg #[.int .i64 a0_0,.int .i64 a0_1,.slice A0_2 l0_2.length c0_2]] rfl qG ?_;(with_reducible refine(aT.calls k a0_0 a0_1 _ _ l0_2 t102 _ ?side1 ?side2 A3.out).mono ?_);(case side1=>exact qC (Kd.C_below HR0_2.out HB.out));(case side2=>exact HC0_2.out);rintro e w7 ⟨rfl,hb⟩;refine⟨_,rfl,?_⟩;replace BK101:=zA (qX BK101.out hb);replace HB:=zA (zV qB hb);(try clear hb);obtain⟨hcz8_0,hcz8_1,hcz8_2,hfz8_0,hfz8_1,hfz8_2⟩:=qc3f BK101.out));apply wp_scope_straight;go_wp2_with (first|((with_reducible refine gate_dst (N:=2) rfl ?_);refine box_event qr (N:=2) qr (cs:= #[.int .i64 a0_0,.int .i64 a0_1,.slice A0_2 l0_2.length c0_2]) (t:=99) qg ?_;intro gb101 hg w5 hbox hb;have BK101:=zA (hbox);have GW101:=zA ((qS:w.heap.size≤gb101));have GE101:=zA ((qS:w.heap.size≤gb101));replace HB:=zA (zV qB hb);clear hb hbox hg;obtain⟨hcz6_0,hcz6_1,hcz6_2,hfz6_0,hfz6_1,hfz6_2⟩:=qc3f BK101.out)|((with_reducible refine zJq (f:=90) rfl ?_);refine goesL_ (some 12) rfl rfl Try.func90 (by kernel_rfl) rfl #[.agg #[.int .i64 a0_0,.int .i64 a0_1,.slice A0_2 l0_2.length c0_2]] rfl qG ?_;(with_reducible refine(aT.calls k a0_0 a0_1 _ _ l0_2 t102 _ ?side1 ?side2 A3.out).mono ?_);(case side1=>exact qC (Kd.C_below HR0_2.out HB.out));(case side2=>exact HC0_2.out);rintro e w7 ⟨rfl,hb⟩;refine⟨_,rfl,?_⟩;replace BK101:=zA (qX BK101.out hb);replace HB:=zA (zV qB hb);(try clear hb);obtain⟨hcz8_0,hcz8_1,hcz8_2,hfz8_0,hfz8_1,hfz8_2⟩:=qc3f BK101.out));apply wp_label;go_wp2_with (first|((with_reducible refine gate_dst (N:=2) rfl ?_);refine box_event qr (N:=2) qr (cs:= #[.int .i64 a0_0,.int .i64 a0_1,.slice A0_2 l0_2.length c0_2]) (t:=99) qg ?_;intro gb101 hg w5 hbox hb;have BK101:=zA (hbox);have GW101:=zA ((qS:w.heap.size≤gb101));have GE101:=zA ((qS:w.heap.size≤gb101));replace HB:=zA (zV qB hb);clear hb hbox hg;obtain⟨hcz6_0,hcz6_1,hcz6_2,hfz6_0,hfz6_1,hfz6_2⟩:=qc3f BK101.out)|((with_reducible refine zJq (f:=90) rfl ?_);refine goesL_ (some 12) rfl rfl Try.func90 (by kernel_rfl) rfl #[.agg #[.int .i64 a0_0,.int .i64 a0_1,.slice A0_2 l0_2.length c0_2]] rfl qG ?_;(with_reducible refine(aT.calls k a0_0 a0_1 _ _ l0_2 t102 _ ?side1 ?side2 A3.out).mono ?_);(case side1=>exact qC (Kd.C_below HR0_2.out HB.out));(case side2=>exact HC0_2.out);rintro e w7 ⟨rfl,hb⟩;refine⟨_,rfl,?_⟩;replace BK101:=zA (qX BK101.out hb);replace HB:=zA (zV qB hb);(try clear hb);obtain⟨hcz8_0,hcz8_1,hcz8_2,hfz8_0,hfz8_1,hfz8_2⟩:=qc3f BK101.out))
  go_loopg[17] k (fun kq v17 w'=> ∃ (x17_1:Int),v17= .int .i64 x17_1∧Aside0 (cE.l0 kq a1 l0_2 (l0_2.length:Int) x17_1=some (r1,r2,r3))∧Aside0 (kq≤k)∧Aside0 (w'.heap[gb101]? =some (.cells #[.int .i64 a0_0,.int .i64 a0_1,(.slice A0_2 l0_2.length c0_2)] 99 (0,0)))∧Aside0 (Below w.heap.size w w'))
  case atStart=>exact⟨(0),qF_,H',⟨Nat.le_refl _⟩,⟨by exact BK101.out⟩,⟨qB⟩⟩
  case round=>
   clear H';try clear p2
   try clear c4
   try clear c4b0
   try clear c4b1
   try clear c8
   try clear hcz6_0
   try clear hcz6_1
   try clear hcz6_2
   try clear hcz8_0
   try clear hcz8_1
   try clear hcz8_2
   try clear hfz6_0
   try clear hfz6_1
   try clear hfz6_2
   try clear hfz8_0
   try clear hfz8_1
   try clear hfz8_2
   obtain⟨x17_1,rfl,HA,HK1,BK101,HB⟩:=hrel;cases gk with
   |zero=>exact absurd HA.out (by simp[cE.l0])
   |succ k1=>
    have H:=HA.out;clear HA;simp only[cE.l0] at H;by_cases c9:x17_1 < (l0_2.length:Int)
    ·rw[if_pos c9] at H
     have c9b0:=zFq c9;clear c9;by_cases c10:0≤x17_1
     ·rw[if_pos c10] at H
      have c10b0:=zFq c10;clear c10;by_cases c11:x17_1 < (l0_2.length:Int)
      ·rw[if_pos c11] at H
       have c11b0:=zFq c11;clear c11;obtain⟨⟨t105,t106⟩,A12,H⟩:=qD_ H;(try dsimp only at H);by_cases c13:t106=true
       ·subst c13
        have H1:(some (x17_1,t105,true))=some (r1,r2,r3):=by first|(rw[if_pos rfl] at H;exact H)|rfl
        clear H;have H:=H1;clear H1;simp only[zNq,zOq] at H;obtain⟨rfl,rfl,rfl⟩:=H;have p103:0≤(x17_1:Int):=qO_;have q103:x17_1 < (l0_2.length:Int):=qO_;obtain⟨ad103,A103_4,c103_4,e103,hx103_0,hx103_1,hx103_2,hx103_3,hx103_4,hl103_4,hi103_4⟩:=at_T71 HR0_2.out x17_1 p103 q103;cases e103
        replace hx103_0:=qU_ hx103_0;replace hx103_1:=qU_ hx103_1;replace hx103_2:=qU_ hx103_2;replace hx103_3:=qU_ hx103_3;replace hx103_4:=qU_ hx103_4;have HR103_4:=zA hi103_4;have HC103_4:=zA hl103_4;clear hi103_4 hl103_4;replace p103:=eq_true p103;replace q103:=eq_true q103;go_wp2_with (first|((with_reducible refine gate_dst (N:=8) rfl ?_);refine box_event qr (N:=8) qr (cs:= #[.int .i64 0,.int .i64 0,.int .i64 0,.int .i64 0,.slice none 0 0]) (t:=71) qg ?_;intro gb104 hg w14 hbox hb;have BK104:=zA (hbox);have GW104:=zA ((qS:w.heap.size≤gb104));have GE104:=zA ((qS:w.heap.size≤gb104));replace HB:=zA (zV qB hb);have NB101_104:=zA ((by rw[hg];exact zLq (qL BK101.out):gb101≠gb104));have NB104_101:=zA ((by rw[hg];exact zMq (qL BK101.out):gb104≠gb101));replace BK101:=zA (qX BK101.out hb);clear hb hbox hg;have hnb15:=NB104_101.out;have hnc15:=NB101_104.out;obtain⟨_,_,_,_,_,_,_,_,_,_⟩:=qc5f BK104.out)|((with_reducible refine zJq (f:=130) rfl ?_);refine goesL_ (some 26) rfl rfl Try.func130 (by kernel_rfl) rfl #[.slice A103_4 ((rd_T71 l0_2 x17_1).f4).length c103_4,.string a1] rfl qG ?_;(with_reducible refine(cS.calls k1 _ _ ((rd_T71 l0_2 x17_1).f4) a1 t105 true _ ?side1 ?side2 A12.out).mono ?_);(case side1=>exact Kd.C_below HR103_4.out qB);(case side2=>exact HC103_4.out);rintro e w17 ⟨rfl,hb⟩;refine⟨_,rfl,?_⟩;replace BK101:=zA (qX BK101.out hb);replace BK104:=zA (zX (g:=gb104) (o:= .cells #[.int .i64 ((rd_T71 l0_2 x17_1).f0),.int .i64 ((rd_T71 l0_2 x17_1).f1),.int .i64 ((rd_T71 l0_2 x17_1).f2),.int .i64 ((rd_T71 l0_2 x17_1).f3),.slice A103_4 ((rd_T71 l0_2 x17_1).f4).length c103_4] 71 (0,0)) (qV BK104.out) hb);replace HB:=zA (zV qB hb);(try clear hb)));(try(with_reducible rw[Exit.noGoto_ret]))
        go_ret3;exact⟨qE,qB⟩
       replace c13:=Bool.eq_false_iff.mpr c13;subst c13;have H1:(cE.l0 k1 a1 l0_2 (l0_2.length:Int) (wrap64 (x17_1+1)))=some (r1,r2,r3):=by first|(rw[if_neg (show ¬ (false=true) by decide)] at H;exact H)|rfl
       clear H;have H:=H1;clear H1;have H':=zA H;clear H;have p103:0≤(x17_1:Int):=qO_;have q103:x17_1 < (l0_2.length:Int):=qO_;obtain⟨ad103,A103_4,c103_4,e103,hx103_0,hx103_1,hx103_2,hx103_3,hx103_4,hl103_4,hi103_4⟩:=at_T71 HR0_2.out x17_1 p103 q103;cases e103
       replace hx103_0:=qU_ hx103_0;replace hx103_1:=qU_ hx103_1;replace hx103_2:=qU_ hx103_2;replace hx103_3:=qU_ hx103_3;replace hx103_4:=qU_ hx103_4;have HR103_4:=zA hi103_4;have HC103_4:=zA hl103_4;clear hi103_4 hl103_4;replace p103:=eq_true p103;replace q103:=eq_true q103;go_wp2_with (first|((with_reducible refine gate_dst (N:=8) rfl ?_);refine box_event qr (N:=8) qr (cs:= #[.int .i64 0,.int .i64 0,.int .i64 0,.int .i64 0,.slice none 0 0]) (t:=71) qg ?_;intro gb104 hg w18 hbox hb;have BK104:=zA (hbox);have GW104:=zA ((qS:w.heap.size≤gb104));have GE104:=zA ((qS:w.heap.size≤gb104));replace HB:=zA (zV qB hb);have NB101_104:=zA ((by rw[hg];exact zLq (qL BK101.out):gb101≠gb104));have NB104_101:=zA ((by rw[hg];exact zMq (qL BK101.out):gb104≠gb101));replace BK101:=zA (qX BK101.out hb);clear hb hbox hg;have hnb19:=NB104_101.out;have hnc19:=NB101_104.out;obtain⟨_,_,_,_,_,_,_,_,_,_⟩:=qc5f BK104.out)|((with_reducible refine zJq (f:=130) rfl ?_);refine goesL_ (some 26) rfl rfl Try.func130 (by kernel_rfl) rfl #[.slice A103_4 ((rd_T71 l0_2 x17_1).f4).length c103_4,.string a1] rfl qG ?_;(with_reducible refine(cS.calls k1 _ _ ((rd_T71 l0_2 x17_1).f4) a1 t105 false _ ?side1 ?side2 A12.out).mono ?_);(case side1=>exact Kd.C_below HR103_4.out qB);(case side2=>exact HC103_4.out);rintro e w21 ⟨rfl,hb⟩;refine⟨_,rfl,?_⟩;replace BK101:=zA (qX BK101.out hb);replace BK104:=zA (zX (g:=gb104) (o:= .cells #[.int .i64 ((rd_T71 l0_2 x17_1).f0),.int .i64 ((rd_T71 l0_2 x17_1).f1),.int .i64 ((rd_T71 l0_2 x17_1).f2),.int .i64 ((rd_T71 l0_2 x17_1).f3),.slice A103_4 ((rd_T71 l0_2 x17_1).f4).length c103_4] 71 (0,0)) (qV BK104.out) hb);replace HB:=zA (zV qB hb);(try clear hb)));go_roundg k1
       case measure=>have:=HK1.out;omega
       case rel=>exact⟨(wrap64 (x17_1+1)),qF_,H',⟨by have:=HK1.out;omega⟩,⟨by exact BK101.out⟩,⟨qB⟩⟩
      rw[if_neg c11] at H;exact absurd H (by simp)
     rw[if_neg c10] at H;exact absurd H (by simp)
    rw[if_neg c9] at H;have c9b0:=zGq c9;clear c9;simp only[zNq,zOq] at H;obtain⟨rfl,rfl,rfl⟩:=H;go_wp2;(try(with_reducible rw[Exit.noGoto_ret]))
    go_ret3;exact⟨qE,qB⟩
 rw[if_neg c4] at H
 have c4b0:(t102==0)=false:=beq_eq_false_iff_ne.mpr c4
 have c4b1:(t102 != 0)=true:=bne_iff_ne.mpr c4
 simp only[zNq,zOq] at H
 obtain⟨rfl,rfl,rfl⟩:=H
 go_enter Try.func86,Try.ntmps86
 go_wp2_with (first|((with_reducible refine gate_dst (N:=2) rfl ?_);refine box_event qr (N:=2) qr (cs:= #[.int .i64 a0_0,.int .i64 a0_1,.slice A0_2 l0_2.length c0_2]) (t:=99) qg ?_;intro gb101 hg w22 hbox hb;have BK101:=zA (hbox);have GW101:=zA ((qS:w.heap.size≤gb101));have GE101:=zA ((qS:w.heap.size≤gb101));replace HB:=zA (zV qB hb);clear hb hbox hg;obtain⟨hcz23_0,hcz23_1,hcz23_2,hfz23_0,hfz23_1,hfz23_2⟩:=qc3f BK101.out)|((with_reducible refine zJq (f:=90) rfl ?_);refine goesL_ (some 12) rfl rfl Try.func90 (by kernel_rfl) rfl #[.agg #[.int .i64 a0_0,.int .i64 a0_1,.slice A0_2 l0_2.length c0_2]] rfl qG ?_;(with_reducible refine(aT.calls k a0_0 a0_1 _ _ l0_2 t102 _ ?side1 ?side2 A3.out).mono ?_);(case side1=>exact qC (Kd.C_below HR0_2.out HB.out));(case side2=>exact HC0_2.out);rintro e w24 ⟨rfl,hb⟩;refine⟨_,rfl,?_⟩;replace BK101:=zA (qX BK101.out hb);replace HB:=zA (zV qB hb);(try clear hb)))
 apply wp_scope_straight
 go_wp2_with (first|((with_reducible refine gate_dst (N:=2) rfl ?_);refine box_event qr (N:=2) qr (cs:= #[.int .i64 a0_0,.int .i64 a0_1,.slice A0_2 l0_2.length c0_2]) (t:=99) qg ?_;intro gb101 hg w22 hbox hb;have BK101:=zA (hbox);have GW101:=zA ((qS:w.heap.size≤gb101));have GE101:=zA ((qS:w.heap.size≤gb101));replace HB:=zA (zV qB hb);clear hb hbox hg;obtain⟨hcz23_0,hcz23_1,hcz23_2,hfz23_0,hfz23_1,hfz23_2⟩:=qc3f BK101.out)|((with_reducible refine zJq (f:=90) rfl ?_);refine goesL_ (some 12) rfl rfl Try.func90 (by kernel_rfl) rfl #[.agg #[.int .i64 a0_0,.int .i64 a0_1,.slice A0_2 l0_2.length c0_2]] rfl qG ?_;(with_reducible refine(aT.calls k a0_0 a0_1 _ _ l0_2 t102 _ ?side1 ?side2 A3.out).mono ?_);(case side1=>exact qC (Kd.C_below HR0_2.out HB.out));(case side2=>exact HC0_2.out);rintro e w24 ⟨rfl,hb⟩;refine⟨_,rfl,?_⟩;replace BK101:=zA (qX BK101.out hb);replace HB:=zA (zV qB hb);(try clear hb)))
 (try(with_reducible rw[Exit.noGoto_ret]))
 go_ret3
 exact⟨qE,qB⟩
def dA.f (k:Nat) (a0_0:Int) (a0_1:Int) (l0_2:List (S71)):Option (Int × Int):=(aT.f k a0_0 a0_1 l0_2).bind fun t102=> (if t102=0 then((bU.f k l0_2).bind fun bt103=> (some (bt103.1,bt103.2)))else(some (0,t102)))
theorem dA.mono: ∀ a0 a1 a2 k,LeO (dA.f k a0 a1 a2) (dA.f (k+1) a0 a1 a2):=by
  intro a0 a1 a2 k
  unfold dA.f
  repeat' (with_reducible first|exact aT.mono _ _ _ _|exact bU.mono _ _|exact LeO.refl _|exact LeO.none _|refine LeO.ite ?_ ?_|refine LeO.bind ?_ (fun _=>?_))
theorem dA.calls (k:Nat) (a0_0:Int) (a0_1:Int) (A0_2:Option Addr) (c0_2:Nat) (l0_2:List (S71)) (r1:Int) (r2:Int) (w:World) (hr0_2:Kd.C k71 w A0_2 l0_2.length l0_2) (hc0_2:l0_2.length≤c0_2) (h:dA.f k a0_0 a0_1 l0_2=some (r1,r2)):
  Calls Try.prog 88 #[.agg #[.int .i64 a0_0,.int .i64 a0_1,.slice A0_2 l0_2.length c0_2]] w fun e w'=>e= .returned (.tuple #[.int .i64 r1,.int .i64 r2])∧Below w.heap.size w w':=by
 have hu99:=Try.underlying99
 have HR0_2:=zA hr0_2
 have HC0_2:=zA hc0_2
 clear hr0_2 hc0_2
 have HB:=zA (Below.refl w.heap.size w)
 have H:((aT.f k a0_0 a0_1 l0_2).bind fun t102=> (if t102=0 then((bU.f k l0_2).bind fun bt103=> (some (bt103.1,bt103.2)))else(some (0,t102))))=some (r1,r2):=h
 clear h
 obtain⟨t102,A2,H⟩:=qD_ H
 (try dsimp only at H)
 by_cases c3:t102=0
 ·rw[if_pos c3] at H
  have c3b0:(t102==0)=true:=beq_iff_eq.mpr c3;have c3b1:(t102 != 0)=false:=bne_eq_false_iff_eq.mpr c3;clear c3;obtain⟨⟨t103,t104⟩,A4,H⟩:=qD_ H;(try dsimp only at H);simp only[zNq,zOq] at H;obtain⟨rfl,rfl⟩:=H;go_enter Try.func88,Try.ntmps88;go_wp2_with (first|((with_reducible refine gate_dst (N:=1) rfl ?_);refine box_event qr (N:=1) qr (cs:= #[.int .i64 a0_0,.int .i64 a0_1,.slice A0_2 l0_2.length c0_2]) (t:=99) qg ?_;intro gb101 hg w5 hbox hb;have BK101:=zA (hbox);have GW101:=zA ((qS:w.heap.size≤gb101));have GE101:=zA ((qS:w.heap.size≤gb101));replace HB:=zA (zV qB hb);clear hb hbox hg;obtain⟨_,_,_,_,_,_⟩:=qc3f BK101.out)|((with_reducible refine zJq (f:=90) rfl ?_);refine goesL_ (some 6) rfl rfl Try.func90 (by kernel_rfl) rfl #[.agg #[.int .i64 a0_0,.int .i64 a0_1,.slice A0_2 l0_2.length c0_2]] rfl qG ?_;(with_reducible refine(aT.calls k a0_0 a0_1 _ _ l0_2 t102 _ ?side1 ?side2 A2.out).mono ?_);(case side1=>exact qC (Kd.C_below HR0_2.out HB.out));(case side2=>exact HC0_2.out);rintro e w7 ⟨rfl,hb⟩;refine⟨_,rfl,?_⟩;replace BK101:=zA (qX BK101.out hb);replace HB:=zA (zV qB hb);(try clear hb);obtain⟨_,_,_,_,_,_⟩:=qc3f BK101.out)|((with_reducible refine zJq (f:=131) rfl ?_);refine goesL_ (some 12) rfl rfl Try.func131 (by kernel_rfl) rfl #[.slice A0_2 l0_2.length c0_2] rfl qG ?_;(with_reducible refine(bU.calls k _ _ l0_2 t103 t104 _ ?side1 ?side2 A4.out).mono ?_);(case side1=>exact qC (Kd.C_below HR0_2.out HB.out));(case side2=>exact HC0_2.out);rintro e w9 ⟨rfl,hb⟩;refine⟨_,rfl,?_⟩;replace BK101:=zA (qX BK101.out hb);replace HB:=zA (zV qB hb);(try clear hb)));go_ret2;exact⟨qE,qB⟩
 rw[if_neg c3] at H
 have c3b0:(t102==0)=false:=beq_eq_false_iff_ne.mpr c3
 have c3b1:(t102 != 0)=true:=bne_iff_ne.mpr c3
 simp only[zNq,zOq] at H
 obtain⟨rfl,rfl⟩:=H
 go_enter Try.func88,Try.ntmps88
 go_wp2_with (first|((with_reducible refine gate_dst (N:=1) rfl ?_);refine box_event qr (N:=1) qr (cs:= #[.int .i64 a0_0,.int .i64 a0_1,.slice A0_2 l0_2.length c0_2]) (t:=99) qg ?_;intro gb101 hg w10 hbox hb;have BK101:=zA (hbox);have GW101:=zA ((qS:w.heap.size≤gb101));have GE101:=zA ((qS:w.heap.size≤gb101));replace HB:=zA (zV qB hb);clear hb hbox hg;obtain⟨_,_,_,_,_,_⟩:=qc3f BK101.out)|((with_reducible refine zJq (f:=90) rfl ?_);refine goesL_ (some 6) rfl rfl Try.func90 (by kernel_rfl) rfl #[.agg #[.int .i64 a0_0,.int .i64 a0_1,.slice A0_2 l0_2.length c0_2]] rfl qG ?_;(with_reducible refine(aT.calls k a0_0 a0_1 _ _ l0_2 t102 _ ?side1 ?side2 A2.out).mono ?_);(case side1=>exact qC (Kd.C_below HR0_2.out HB.out));(case side2=>exact HC0_2.out);rintro e w12 ⟨rfl,hb⟩;refine⟨_,rfl,?_⟩;replace BK101:=zA (qX BK101.out hb);replace HB:=zA (zV qB hb);(try clear hb)))
 go_ret2
 exact⟨qE,qB⟩
def aV.l0:Nat→List ByteArray→List ByteArray→Int→Option (Bool)
  |0,_,_,_=>none
  |k+1,x0,x1,x5=>if x5 < (x0.length:Int)then(if 0≤x5 then(if x5 < (x1.length:Int)then(if(rdOf ByteArray.empty x0 x5).toList=(rdOf ByteArray.empty x1 x5).toList then(aV.l0 k x0 x1 (wrap64 (x5+1)))else(some false))else(none))else(none))else(some true)
def aV.f (k:Nat) (l0:List ByteArray) (l1:List ByteArray):Option (Bool):=if(l0.length:Int)=(l1.length:Int)then(aV.l0 k l0 l1 0)else(some false)
theorem aV.mono_l: ∀ k,(∀ y0 y1 y2,LeO (aV.l0 k y0 y1 y2) (aV.l0 (k+1) y0 y1 y2))
  |0=>fun _ _ _ r h=>by simp[aV.l0] at h
  |k+1=>by
    have ih0:=aV.mono_l k
    intro y0 y1 y2
    unfold aV.l0
    repeat' (with_reducible first|exact ih0 _ _ _|exact LeO.refl _|exact LeO.none _|refine LeO.ite ?_ ?_|refine LeO.bind ?_ (fun _=>?_))
theorem aV.mono: ∀ a0 a1 k,LeO (aV.f k a0 a1) (aV.f (k+1) a0 a1):=by
  intro a0 a1 k
  have ih0:=aV.mono_l k
  unfold aV.f
  repeat' (with_reducible first|exact ih0 _ _ _|exact LeO.refl _|exact LeO.none _|refine LeO.ite ?_ ?_|refine LeO.bind ?_ (fun _=>?_))
theorem aV.calls (k:Nat) (A0:Option Addr) (c0:Nat) (l0:List ByteArray) (A1:Option Addr) (c1:Nat) (l1:List ByteArray) (r:Bool) (w:World) (hr0:Kd.C Kd.string w A0 l0.length l0) (hc0:l0.length≤c0) (hr1:Kd.C Kd.string w A1 l1.length l1) (hc1:l1.length≤c1) (h:aV.f k l0 l1=some r):
  Calls Try.prog 92 #[.slice A0 l0.length c0,.slice A1 l1.length c1] w fun e w'=>e= .returned (.bool r)∧Drawn0 w w':=by
 have HR0:=zA hr0
 have HC0:=zA hc0
 clear hr0 hc0
 have HR1:=zA hr1
 have HC1:=zA hc1
 clear hr1 hc1
 have H:(if(l0.length:Int)=(l1.length:Int)then(aV.l0 k l0 l1 0)else(some false))=some r:=h
 clear h
 by_cases c3:(l0.length:Int)=(l1.length:Int)
 ·rw[if_pos c3] at H
  have c3b0:((l0.length:Int)==(l1.length:Int))=true:=beq_iff_eq.mpr c3;have c3b1:((l0.length:Int) !=(l1.length:Int))=false:=bne_eq_false_iff_eq.mpr c3;have c3b2:(l0.length==l1.length)=true:=by first|simpa using c3|(simp at c3⊢;omega)
  clear c3;have H':=zA H;clear H;go_enter Try.func92,Try.ntmps92;go_wp2;repeat(go_quiet (fail);try go_wp2)
  go_loopg[5] k (fun kq v5 w'=> ∃ (x5_1:Int),v5= .int .i64 x5_1∧Aside0 (aV.l0 kq l0 l1 x5_1=some r)∧Aside0 (kq≤k)∧Drawn0 w w')
  case atStart=>exact⟨(0),qF_,H',⟨Nat.le_refl _⟩,by repeat(first|exact Drawn0.refl _|apply Drawn0.step)⟩
  case round=>
   clear H';try clear c1
   try clear p2
   try clear c3
   try clear c3b0
   try clear c3b1
   try clear c3b2
   obtain⟨x5_1,rfl,HA,HK1,⟨m1,rfl⟩⟩:=hrel;cases gk with
   |zero=>exact absurd HA.out (by simp[aV.l0])
   |succ k1=>
    have H:=HA.out;clear HA;simp only[aV.l0] at H;by_cases c4:x5_1 < (l0.length:Int)
    ·rw[if_pos c4] at H
     have c4b0:=zFq c4;clear c4;by_cases c5:0≤x5_1
     ·rw[if_pos c5] at H
      have c5b0:=zFq c5;clear c5;by_cases c6:x5_1 < (l1.length:Int)
      ·rw[if_pos c6] at H
       have c6b0:=zFq c6;clear c6;by_cases c7:(rdOf ByteArray.empty l0 x5_1).toList=(rdOf ByteArray.empty l1 x5_1).toList
       ·rw[if_pos c7] at H
        have c7b0:((rdOf ByteArray.empty l0 x5_1).toList==(rdOf ByteArray.empty l1 x5_1).toList)=true:=beq_iff_eq.mpr c7;have c7b1:((rdOf ByteArray.empty l0 x5_1).toList !=(rdOf ByteArray.empty l1 x5_1).toList)=false:=bne_eq_false_iff_eq.mpr c7;clear c7;have H':=zA H;clear H;have p101:0≤(x5_1:Int):=qO_;have q101:x5_1 < (l0.length:Int):=qO_;obtain⟨ad101,e101,hx101_0⟩:=Kd.at_string HR0.out x5_1 p101 q101;cases e101
        replace p101:=eq_true p101;replace q101:=eq_true q101;have p102:0≤(x5_1:Int):=qO_;have q102:x5_1 < (l1.length:Int):=qO_;obtain⟨ad102,e102,hx102_0⟩:=Kd.at_string HR1.out x5_1 p102 q102;cases e102
        replace p102:=eq_true p102;replace q102:=eq_true q102;go_wp2;repeat(go_quiet (fail);try go_wp2)
        go_roundg k1
        case measure=>have:=HK1.out;omega
        case rel=>exact⟨(wrap64 (x5_1+1)),qF_,H',⟨by have:=HK1.out;omega⟩,by repeat(first|exact Drawn0.refl _|apply Drawn0.step)⟩
       rw[if_neg c7] at H;have c7b0:((rdOf ByteArray.empty l0 x5_1).toList==(rdOf ByteArray.empty l1 x5_1).toList)=false:=beq_eq_false_iff_ne.mpr c7;have c7b1:((rdOf ByteArray.empty l0 x5_1).toList !=(rdOf ByteArray.empty l1 x5_1).toList)=true:=bne_iff_ne.mpr c7;obtain rfl:=zKq H;have p101:0≤(x5_1:Int):=qO_;have q101:x5_1 < (l0.length:Int):=qO_;obtain⟨ad101,e101,hx101_0⟩:=Kd.at_string HR0.out x5_1 p101 q101;cases e101
       replace p101:=eq_true p101;replace q101:=eq_true q101;have p102:0≤(x5_1:Int):=qO_;have q102:x5_1 < (l1.length:Int):=qO_;obtain⟨ad102,e102,hx102_0⟩:=Kd.at_string HR1.out x5_1 p102 q102;cases e102
       replace p102:=eq_true p102;replace q102:=eq_true q102;go_wp2;repeat(go_quiet (fail);try go_wp2)
       go_ret;exact⟨by first|rfl|(simp;done)|(simp[*];done),by repeat(first|exact Drawn0.refl _|apply Drawn0.step)⟩
      rw[if_neg c6] at H;exact absurd H (by simp)
     rw[if_neg c5] at H;exact absurd H (by simp)
    rw[if_neg c4] at H;have c4b0:=zGq c4;clear c4;obtain rfl:=zKq H;go_wp2;repeat(go_quiet (fail);try go_wp2)
    go_ret;exact⟨by first|rfl|(simp;done)|(simp[*];done),by repeat(first|exact Drawn0.refl _|apply Drawn0.step)⟩
 rw[if_neg c3] at H
 have c3b0:((l0.length:Int)==(l1.length:Int))=false:=beq_eq_false_iff_ne.mpr c3
 have c3b1:((l0.length:Int) !=(l1.length:Int))=true:=bne_iff_ne.mpr c3
 have c3b2:(l0.length==l1.length)=false:=by first|simpa using c3|(simp at c3⊢;omega)
 obtain rfl:=zKq H
 go_enter Try.func92,Try.ntmps92
 go_wp2
 repeat(go_quiet (fail);try go_wp2)
 go_ret
 exact⟨by first|rfl|(simp;done)|(simp[*];done),by repeat(first|exact Drawn0.refl _|apply Drawn0.step)⟩
def bX.l0:Nat→List ByteArray→List (S71)→Int→Int→Option (List ByteArray)
  |0,_,_,_,_=>none
  |k+1,x3,x10,x11,x12=>if x12 < x11 then(if 0≤x12 then(if x12 < (x10.length:Int)then(if x3.length+((rd_T71 x10 x12).f4).length < 8796093022208 then(bX.l0 k (x3++((rd_T71 x10 x12).f4)) x10 x11 (wrap64 (x12+1)))else(none))else(none))else(none))else(some x3)
def bX.f (k:Nat) (a0_0:Int) (a0_1:Int) (l0_2:List (S71)):Option (List ByteArray):=(aT.f k a0_0 a0_1 l0_2).bind fun t102=> (if t102=0 then(bX.l0 k ([] :List ByteArray) l0_2 (l0_2.length:Int) 0)else(some ([] :List ByteArray)))
theorem bX.mono_l: ∀ k,(∀ y0 y1 y2 y3,LeO (bX.l0 k y0 y1 y2 y3) (bX.l0 (k+1) y0 y1 y2 y3))
  |0=>fun _ _ _ _ r h=>by simp[bX.l0] at h
  |k+1=>by
    have ih0:=bX.mono_l k
    intro y0 y1 y2 y3
    unfold bX.l0
    repeat' (with_reducible first|exact ih0 _ _ _ _|exact aT.mono _ _ _ _|exact LeO.refl _|exact LeO.none _|refine LeO.ite ?_ ?_|refine LeO.bind ?_ (fun _=>?_))
theorem bX.mono: ∀ a0 a1 a2 k,LeO (bX.f k a0 a1 a2) (bX.f (k+1) a0 a1 a2):=by
  intro a0 a1 a2 k
  have ih0:=bX.mono_l k
  unfold bX.f
  repeat' (with_reducible first|exact ih0 _ _ _ _|exact aT.mono _ _ _ _|exact LeO.refl _|exact LeO.none _|refine LeO.ite ?_ ?_|refine LeO.bind ?_ (fun _=>?_))
theorem bX.calls (k:Nat) (a0_0:Int) (a0_1:Int) (A0_2:Option Addr) (c0_2:Nat) (l0_2:List (S71)) (r:List ByteArray) (w:World) (hr0_2:Kd.C k71 w A0_2 l0_2.length l0_2) (hc0_2:l0_2.length≤c0_2) (h:bX.f k a0_0 a0_1 l0_2=some r):
  Calls Try.prog 93 #[.agg #[.int .i64 a0_0,.int .i64 a0_1,.slice A0_2 l0_2.length c0_2]] w fun e w'=> ∃ v0_:Value,e= .returned (v0_)∧Kd.R Kd.string 9 w' w.heap.size (fun _=>True) v0_ r∧Below w.heap.size w w':=by
 have hu99:=Try.underlying99
 have hu71:=Try.underlying71
 have HR0_2:=zA hr0_2
 have HC0_2:=zA hc0_2
 clear hr0_2 hc0_2
 have HB:=zA (Below.refl w.heap.size w)
 have H:((aT.f k a0_0 a0_1 l0_2).bind fun t102=> (if t102=0 then(bX.l0 k ([] :List ByteArray) l0_2 (l0_2.length:Int) 0)else(some ([] :List ByteArray))))=some r:=h
 clear h
 obtain⟨t102,A2,H⟩:=qD_ H
 (try dsimp only at H)
 by_cases c3:t102=0
 ·rw[if_pos c3] at H
  have c3b0:(t102==0)=true:=beq_iff_eq.mpr c3;have c3b1:(t102 != 0)=false:=bne_eq_false_iff_eq.mpr c3;clear c3;have H':=zA H;clear H;go_enter Try.func93,Try.ntmps93;go_wp2_with (first|((with_reducible refine gate_dst (N:=1) rfl ?_);refine box_event qr (N:=1) qr (cs:= #[.int .i64 a0_0,.int .i64 a0_1,.slice A0_2 l0_2.length c0_2]) (t:=99) qg ?_;intro gb101 hg w4 hbox hb;have BK101:=zA (hbox);have GW101:=zA ((qS:w.heap.size≤gb101));have GE101:=zA ((qS:w.heap.size≤gb101));replace HB:=zA (zV qB hb);clear hb hbox hg;obtain⟨_,_,_,_,_,_⟩:=qc3f BK101.out)|((with_reducible refine zJq (f:=90) rfl ?_);refine goesL_ (some 7) rfl rfl Try.func90 (by kernel_rfl) rfl #[.agg #[.int .i64 a0_0,.int .i64 a0_1,.slice A0_2 l0_2.length c0_2]] rfl qG ?_;(with_reducible refine(aT.calls k a0_0 a0_1 _ _ l0_2 t102 _ ?side1 ?side2 A2.out).mono ?_);(case side1=>exact qC (Kd.C_below HR0_2.out HB.out));(case side2=>exact HC0_2.out);rintro e w6 ⟨rfl,hb⟩;refine⟨_,rfl,?_⟩;replace BK101:=zA (qX BK101.out hb);replace HB:=zA (zV qB hb);(try clear hb);obtain⟨_,_,_,_,_,_⟩:=qc3f BK101.out));go_loopg[3,12] k (fun kq v3 v12 w'=> ∃ (x3_1:List ByteArray) (x12_1:Int),v12= .int .i64 x12_1∧Aside0 (bX.l0 kq x3_1 l0_2 (l0_2.length:Int) x12_1=some r)∧Aside0 (kq≤k)∧Aside0 (Kd.R Kd.string 9 w' w.heap.size (fun _=>True) v3 x3_1)∧Aside0 (w'.heap[gb101]? =some (.cells #[.int .i64 a0_0,.int .i64 a0_1,(.slice A0_2 l0_2.length c0_2)] 99 (0,0)))∧Aside0 (Below w.heap.size w w'))
  case atStart=>exact⟨(([] :List ByteArray)),(0),qF_,H',⟨Nat.le_refl _⟩,⟨qN⟩,⟨by exact BK101.out⟩,⟨qB⟩⟩
  case round=>
   clear H';try clear p2
   try clear c3
   try clear c3b0
   try clear c3b1
   obtain⟨x3_1,x12_1,rfl,HA,HK1,HO_3,BK101,HB⟩:=hrel;cases gk with
   |zero=>exact absurd HA.out (by simp[bX.l0])
   |succ k1=>
    have H:=HA.out;clear HA;simp only[bX.l0] at H;by_cases c8:x12_1 < (l0_2.length:Int)
    ·rw[if_pos c8] at H
     have c8b0:=zFq c8;clear c8;by_cases c9:0≤x12_1
     ·rw[if_pos c9] at H
      have c9b0:=zFq c9;clear c9;by_cases c10:x12_1 < (l0_2.length:Int)
      ·rw[if_pos c10] at H
       have c10b0:=zFq c10;clear c10;by_cases c11:x3_1.length+((rd_T71 l0_2 x12_1).f4).length < 8796093022208
       ·rw[if_pos c11] at H
        have LMc11:=zA c11;clear c11;obtain⟨y105,hy105⟩: ∃ y_:List ByteArray,y_=(x3_1++((rd_T71 l0_2 x12_1).f4)):=⟨_,rfl⟩
        replace H:(bX.l0 k1 y105 l0_2 (l0_2.length:Int) (wrap64 (x12_1+1)))=some r:=by first|(rw[hy105];with_reducible exact H)|(have H2_:=(Option.bind_some _ _).symm.trans H;rw[hy105];with_reducible exact H2_)|(have H2_:=(Option.bind_some _ _).symm.trans H;with_reducible exact H2_)|with_reducible exact H|(rw[hy105];exact H)|exact H
        have Ny105:=zA hy105;clear hy105;have H':=zA H;clear H;have p103:0≤(x12_1:Int):=qO_;have q103:x12_1 < (l0_2.length:Int):=qO_;obtain⟨ad103,A103_4,c103_4,e103,hx103_0,hx103_1,hx103_2,hx103_3,hx103_4,hl103_4,hi103_4⟩:=at_T71 HR0_2.out x12_1 p103 q103;cases e103
        replace hx103_0:=qU_ hx103_0;replace hx103_1:=qU_ hx103_1;replace hx103_2:=qU_ hx103_2;replace hx103_3:=qU_ hx103_3;replace hx103_4:=qU_ hx103_4;have HR103_4:=zA hi103_4;have HC103_4:=zA hl103_4;clear hi103_4 hl103_4;replace p103:=eq_true p103;replace q103:=eq_true q103;go_wp2_with (first|((with_reducible refine gate_dst (N:=5) rfl ?_);refine box_event qr (N:=5) qr (cs:= #[.int .i64 0,.int .i64 0,.int .i64 0,.int .i64 0,.slice none 0 0]) (t:=71) qg ?_;intro gb104 hg w12 hbox hb;replace HO_3:=zA (Kd.R_below (qR_ HO_3.out) hb);have BK104:=zA (hbox);have GW104:=zA ((qS:w.heap.size≤gb104));have GE104:=zA ((qS:w.heap.size≤gb104));replace HB:=zA (zV qB hb);have NB101_104:=zA ((by rw[hg];exact zLq (qL BK101.out):gb101≠gb104));have NB104_101:=zA ((by rw[hg];exact zMq (qL BK101.out):gb104≠gb101));replace BK101:=zA (qX BK101.out hb);clear hb hbox hg;have hnb13:=NB104_101.out;have hnc13:=NB101_104.out;obtain⟨_,_,_,_,_,_,_,_,_,_⟩:=qc5f BK104.out)|((with_reducible refine gate_builtin (b:= .append) (xs:= #[.tmp 16,.tmp 18]) rfl ?_);at_builtin;refine Kd.R_append_rows Kd.string (w0:=w) w.heap.size rfl (.tmp 16) (.tmp 18) 69 9 (.string ⟨#[]⟩) 16 rfl Try.underlying69 info9 rfl (by decide) (by omega) u3 x3_1 ((rd_T71 l0_2 x12_1).f4) _ _ _ (fun _=>True) (fun _=>False) rfl rfl ?aO ?aR (fun _ _ h=>h) (fun _ h=>h.elim) ?aF ?aB ?aS ?aL ?_;(case aR=>exact Kd.C_below HR103_4.out qB);(case aB=>exact qB);(case aF=>exact(fun _ _=>trivial));(case aO=>exact(by(with_reducible repeat(first|apply Kd.R_alloc|apply Kd.R_drewN|apply Kd.R_drew));exact Kd.R_mono (Kd.R_far (p:=⟨gb104,4,none⟩) (Kd.R_far (p:=⟨gb104,3,none⟩) (Kd.R_far (p:=⟨gb104,2,none⟩) (Kd.R_far (p:=⟨gb104,1,none⟩) (Kd.R_far (p:=⟨gb104,0,none⟩) (Kd.R_types HO_3.out BK104.out (by decide)) (fun _ hk=>hk.2) (.int .i64 ((rd_T71 l0_2 x12_1).f0))) (fun _ hk=>hk.2) (.int .i64 ((rd_T71 l0_2 x12_1).f1))) (fun _ hk=>hk.2) (.int .i64 ((rd_T71 l0_2 x12_1).f2))) (fun _ hk=>hk.2) (.int .i64 ((rd_T71 l0_2 x12_1).f3))) (fun _ hk=>hk.2) (.slice A103_4 ((rd_T71 l0_2 x12_1).f4).length c103_4)) (fun _ hk=>trivial)));(case aS=>exact(zW qB));(case aL=>have:=LMc11.out;omega);intro v106 w15 ho hb hg hat;rw[←Ny105.out] at ho;replace BK101:=zA (blk_grown (g:=gb101) (o:= .cells #[.int .i64 a0_0,.int .i64 a0_1,.slice (some ad103) l0_2.length c0_2] 99 (0,0)) (qW BK101.out) hg (Kd.R_ne HO_3.out BK101.out (by decide)));replace BK104:=zA (blk_grown (g:=gb104) (o:= .cells #[.int .i64 ((rd_T71 l0_2 x12_1).f0),.int .i64 ((rd_T71 l0_2 x12_1).f1),.int .i64 ((rd_T71 l0_2 x12_1).f2),.int .i64 ((rd_T71 l0_2 x12_1).f3),.slice A103_4 ((rd_T71 l0_2 x12_1).f4).length c103_4] 71 (0,0)) (qV BK104.out) hg (Kd.R_ne HO_3.out BK104.out (by decide)));replace HB:=zA (hb);have HO107:=zA (ho);clear HO_3 ho hb hg hat))
        go_roundg k1
        case measure=>have:=HK1.out;omega
        case rel=>exact⟨(y105),(wrap64 (x12_1+1)),qF_,H',⟨by have:=HK1.out;omega⟩,⟨qR_ HO107.out⟩,⟨by exact BK101.out⟩,⟨qB⟩⟩
       rw[if_neg c11] at H;exact absurd H (by simp)
      rw[if_neg c10] at H;exact absurd H (by simp)
     rw[if_neg c9] at H;exact absurd H (by simp)
    rw[if_neg c8] at H;have c8b0:=zGq c8;clear c8;obtain rfl:=zKq H;go_wp2;go_ret;exact⟨_,qE,qR_ HO_3.out,qB⟩
 rw[if_neg c3] at H
 have c3b0:(t102==0)=false:=beq_eq_false_iff_ne.mpr c3
 have c3b1:(t102 != 0)=true:=bne_iff_ne.mpr c3
 obtain rfl:=zKq H
 go_enter Try.func93,Try.ntmps93
 go_wp2_with (first|((with_reducible refine gate_dst (N:=1) rfl ?_);refine box_event qr (N:=1) qr (cs:= #[.int .i64 a0_0,.int .i64 a0_1,.slice A0_2 l0_2.length c0_2]) (t:=99) qg ?_;intro gb101 hg w16 hbox hb;have BK101:=zA (hbox);have GW101:=zA ((qS:w.heap.size≤gb101));have GE101:=zA ((qS:w.heap.size≤gb101));replace HB:=zA (zV qB hb);clear hb hbox hg;obtain⟨_,_,_,_,_,_⟩:=qc3f BK101.out)|((with_reducible refine zJq (f:=90) rfl ?_);refine goesL_ (some 7) rfl rfl Try.func90 (by kernel_rfl) rfl #[.agg #[.int .i64 a0_0,.int .i64 a0_1,.slice A0_2 l0_2.length c0_2]] rfl qG ?_;(with_reducible refine(aT.calls k a0_0 a0_1 _ _ l0_2 t102 _ ?side1 ?side2 A2.out).mono ?_);(case side1=>exact qC (Kd.C_below HR0_2.out HB.out));(case side2=>exact HC0_2.out);rintro e w18 ⟨rfl,hb⟩;refine⟨_,rfl,?_⟩;replace BK101:=zA (qX BK101.out hb);replace HB:=zA (zV qB hb);(try clear hb)))
 go_ret
 exact⟨_,qE,qN,qB⟩
def bC.l0:Nat→List ByteArray→List ByteArray→Int→Int→Option (Bool)
  |0,_,_,_,_=>none
  |k+1,x0,x1,x12,x13=>if x13 < x12 then(if 0≤x13 then(if x13 < (x0.length:Int)then(if x13 < (x1.length:Int)then(if(rdOf ByteArray.empty x0 x13).toList=(rdOf ByteArray.empty x1 x13).toList then(bC.l0 k x0 x1 x12 (wrap64 (x13+1)))else(some false))else(none))else(none))else(none))else(some true)
def bC.f (k:Nat) (l0:List ByteArray) (l1:List ByteArray):Option (Bool):=if(l0.length:Int)=(l1.length:Int)then(bC.l0 k l0 l1 (l0.length:Int) 0)else(some false)
theorem bC.mono_l: ∀ k,(∀ y0 y1 y2 y3,LeO (bC.l0 k y0 y1 y2 y3) (bC.l0 (k+1) y0 y1 y2 y3))
  |0=>fun _ _ _ _ r h=>by simp[bC.l0] at h
  |k+1=>by
    have ih0:=bC.mono_l k
    intro y0 y1 y2 y3
    unfold bC.l0
    repeat' (with_reducible first|exact ih0 _ _ _ _|exact LeO.refl _|exact LeO.none _|refine LeO.ite ?_ ?_|refine LeO.bind ?_ (fun _=>?_))
theorem bC.mono: ∀ a0 a1 k,LeO (bC.f k a0 a1) (bC.f (k+1) a0 a1):=by
  intro a0 a1 k
  have ih0:=bC.mono_l k
  unfold bC.f
  repeat' (with_reducible first|exact ih0 _ _ _ _|exact LeO.refl _|exact LeO.none _|refine LeO.ite ?_ ?_|refine LeO.bind ?_ (fun _=>?_))
theorem bC.calls (k:Nat) (A0:Option Addr) (c0:Nat) (l0:List ByteArray) (A1:Option Addr) (c1:Nat) (l1:List ByteArray) (r:Bool) (w:World) (hr0:Kd.C Kd.string w A0 l0.length l0) (hc0:l0.length≤c0) (hr1:Kd.C Kd.string w A1 l1.length l1) (hc1:l1.length≤c1) (h:bC.f k l0 l1=some r):
  Calls Try.prog 135 #[.slice A0 l0.length c0,.slice A1 l1.length c1] w fun e w'=>e= .returned (.bool r)∧Drawn0 w w':=by
 have HR0:=zA hr0
 have HC0:=zA hc0
 clear hr0 hc0
 have HR1:=zA hr1
 have HC1:=zA hc1
 clear hr1 hc1
 have H:(if(l0.length:Int)=(l1.length:Int)then(bC.l0 k l0 l1 (l0.length:Int) 0)else(some false))=some r:=h
 clear h
 by_cases c3:(l0.length:Int)=(l1.length:Int)
 ·rw[if_pos c3] at H
  have c3b0:((l0.length:Int)==(l1.length:Int))=true:=beq_iff_eq.mpr c3;have c3b1:((l0.length:Int) !=(l1.length:Int))=false:=bne_eq_false_iff_eq.mpr c3;have c3b2:(l0.length==l1.length)=true:=by first|simpa using c3|(simp at c3⊢;omega)
  clear c3;have H':=zA H;clear H;go_enter Try.func135,Try.ntmps135;go_wp2;repeat(go_quiet (fail);try go_wp2)
  go_loopg[13] k (fun kq v13 w'=> ∃ (x13_1:Int),v13= .int .i64 x13_1∧Aside0 (bC.l0 kq l0 l1 (l0.length:Int) x13_1=some r)∧Aside0 (kq≤k)∧Drawn0 w w')
  case atStart=>exact⟨(0),qF_,H',⟨Nat.le_refl _⟩,by repeat(first|exact Drawn0.refl _|apply Drawn0.step)⟩
  case round=>
   clear H';try clear c1
   try clear p2
   try clear c3
   try clear c3b0
   try clear c3b1
   try clear c3b2
   obtain⟨x13_1,rfl,HA,HK1,⟨m1,rfl⟩⟩:=hrel;cases gk with
   |zero=>exact absurd HA.out (by simp[bC.l0])
   |succ k1=>
    have H:=HA.out;clear HA;simp only[bC.l0] at H;by_cases c4:x13_1 < (l0.length:Int)
    ·rw[if_pos c4] at H
     have c4b0:=zFq c4;clear c4;by_cases c5:0≤x13_1
     ·rw[if_pos c5] at H
      have c5b0:=zFq c5;clear c5;by_cases c6:x13_1 < (l0.length:Int)
      ·rw[if_pos c6] at H
       have c6b0:=zFq c6;clear c6;by_cases c7:x13_1 < (l1.length:Int)
       ·rw[if_pos c7] at H
        have c7b0:=zFq c7;clear c7;by_cases c8:(rdOf ByteArray.empty l0 x13_1).toList=(rdOf ByteArray.empty l1 x13_1).toList
        ·rw[if_pos c8] at H
         have c8b0:((rdOf ByteArray.empty l0 x13_1).toList==(rdOf ByteArray.empty l1 x13_1).toList)=true:=beq_iff_eq.mpr c8;have c8b1:((rdOf ByteArray.empty l0 x13_1).toList !=(rdOf ByteArray.empty l1 x13_1).toList)=false:=bne_eq_false_iff_eq.mpr c8;clear c8;have H':=zA H;clear H;have p101:0≤(x13_1:Int):=qO_;have q101:x13_1 < (l0.length:Int):=qO_;obtain⟨ad101,e101,hx101_0⟩:=Kd.at_string HR0.out x13_1 p101 q101;cases e101
         replace p101:=eq_true p101;replace q101:=eq_true q101;have p102:0≤(x13_1:Int):=qO_;have q102:x13_1 < (l1.length:Int):=qO_;obtain⟨ad102,e102,hx102_0⟩:=Kd.at_string HR1.out x13_1 p102 q102;cases e102
         replace p102:=eq_true p102;replace q102:=eq_true q102;go_wp2;repeat(go_quiet (fail);try go_wp2)
         go_roundg k1
         case measure=>have:=HK1.out;omega
         case rel=>exact⟨(wrap64 (x13_1+1)),qF_,H',⟨by have:=HK1.out;omega⟩,by repeat(first|exact Drawn0.refl _|apply Drawn0.step)⟩
        rw[if_neg c8] at H;have c8b0:((rdOf ByteArray.empty l0 x13_1).toList==(rdOf ByteArray.empty l1 x13_1).toList)=false:=beq_eq_false_iff_ne.mpr c8;have c8b1:((rdOf ByteArray.empty l0 x13_1).toList !=(rdOf ByteArray.empty l1 x13_1).toList)=true:=bne_iff_ne.mpr c8;obtain rfl:=zKq H;have p101:0≤(x13_1:Int):=qO_;have q101:x13_1 < (l0.length:Int):=qO_;obtain⟨ad101,e101,hx101_0⟩:=Kd.at_string HR0.out x13_1 p101 q101;cases e101
        replace p101:=eq_true p101;replace q101:=eq_true q101;have p102:0≤(x13_1:Int):=qO_;have q102:x13_1 < (l1.length:Int):=qO_;obtain⟨ad102,e102,hx102_0⟩:=Kd.at_string HR1.out x13_1 p102 q102;cases e102
        replace p102:=eq_true p102;replace q102:=eq_true q102;go_wp2;repeat(go_quiet (fail);try go_wp2)
        go_ret;exact⟨by first|rfl|(simp;done)|(simp[*];done),by repeat(first|exact Drawn0.refl _|apply Drawn0.step)⟩
       rw[if_neg c7] at H;exact absurd H (by simp)
      rw[if_neg c6] at H;exact absurd H (by simp)
     rw[if_neg c5] at H;exact absurd H (by simp)
    rw[if_neg c4] at H;have c4b0:=zGq c4;clear c4;obtain rfl:=zKq H;go_wp2;repeat(go_quiet (fail);try go_wp2)
    go_ret;exact⟨by first|rfl|(simp;done)|(simp[*];done),by repeat(first|exact Drawn0.refl _|apply Drawn0.step)⟩
 rw[if_neg c3] at H
 have c3b0:((l0.length:Int)==(l1.length:Int))=false:=beq_eq_false_iff_ne.mpr c3
 have c3b1:((l0.length:Int) !=(l1.length:Int))=true:=bne_iff_ne.mpr c3
 have c3b2:(l0.length==l1.length)=false:=by first|simpa using c3|(simp at c3⊢;omega)
 obtain rfl:=zKq H
 go_enter Try.func135,Try.ntmps135
 go_wp2
 repeat(go_quiet (fail);try go_wp2)
 go_ret
 exact⟨by first|rfl|(simp;done)|(simp[*];done),by repeat(first|exact Drawn0.refl _|apply Drawn0.step)⟩
def cP.f (k:Nat) (a0_0:Int) (a0_1:Int) (a0_2:Int) (a0_3:Int) (l0_4:List ByteArray) (a1_0:Int) (a1_1:Int) (a1_2:Int) (a1_3:Int) (l1_4:List ByteArray):Option (Bool):=if a0_0=a1_0 then(if a0_1=a1_1 then(if a0_2=a1_2 then(if a0_3=a1_3 then((bC.f k l0_4 l1_4).bind fun t103=> (some t103))else(some false))else(some false))else(some false))else(some false)
theorem cP.mono: ∀ a0 a1 a2 a3 a4 a5 a6 a7 a8 a9 k,LeO (cP.f k a0 a1 a2 a3 a4 a5 a6 a7 a8 a9) (cP.f (k+1) a0 a1 a2 a3 a4 a5 a6 a7 a8 a9):=by
  intro a0 a1 a2 a3 a4 a5 a6 a7 a8 a9 k
  unfold cP.f
  repeat' (with_reducible first|exact bC.mono _ _ _|exact LeO.refl _|exact LeO.none _|refine LeO.ite ?_ ?_|refine LeO.bind ?_ (fun _=>?_))
theorem cP.calls (k:Nat) (a0_0:Int) (a0_1:Int) (a0_2:Int) (a0_3:Int) (A0_4:Option Addr) (c0_4:Nat) (l0_4:List ByteArray) (a1_0:Int) (a1_1:Int) (a1_2:Int) (a1_3:Int) (A1_4:Option Addr) (c1_4:Nat) (l1_4:List ByteArray) (r:Bool) (w:World) (hr0_4:Kd.C Kd.string w A0_4 l0_4.length l0_4) (hc0_4:l0_4.length≤c0_4) (hr1_4:Kd.C Kd.string w A1_4 l1_4.length l1_4) (hc1_4:l1_4.length≤c1_4) (h:cP.f k a0_0 a0_1 a0_2 a0_3 l0_4 a1_0 a1_1 a1_2 a1_3 l1_4=some r):
  Calls Try.prog 134 #[.agg #[.int .i64 a0_0,.int .i64 a0_1,.int .i64 a0_2,.int .i64 a0_3,.slice A0_4 l0_4.length c0_4],.agg #[.int .i64 a1_0,.int .i64 a1_1,.int .i64 a1_2,.int .i64 a1_3,.slice A1_4 l1_4.length c1_4]] w fun e w'=>e= .returned (.bool r)∧Below w.heap.size w w':=by
 have hu71:=Try.underlying71
 have HR0_4:=zA hr0_4
 have HC0_4:=zA hc0_4
 clear hr0_4 hc0_4
 have HR1_4:=zA hr1_4
 have HC1_4:=zA hc1_4
 clear hr1_4 hc1_4
 have HB:=zA (Below.refl w.heap.size w)
 have H:(if a0_0=a1_0 then(if a0_1=a1_1 then(if a0_2=a1_2 then(if a0_3=a1_3 then((bC.f k l0_4 l1_4).bind fun t103=> (some t103))else(some false))else(some false))else(some false))else(some false))=some r:=h
 clear h
 by_cases c3:a0_0=a1_0
 ·rw[if_pos c3] at H
  have c3b0:(a0_0==a1_0)=true:=beq_iff_eq.mpr c3;have c3b1:(a0_0 != a1_0)=false:=bne_eq_false_iff_eq.mpr c3;clear c3;by_cases c4:a0_1=a1_1
  ·rw[if_pos c4] at H
   have c4b0:(a0_1==a1_1)=true:=beq_iff_eq.mpr c4;have c4b1:(a0_1 != a1_1)=false:=bne_eq_false_iff_eq.mpr c4;clear c4;by_cases c5:a0_2=a1_2
   ·rw[if_pos c5] at H
    have c5b0:(a0_2==a1_2)=true:=beq_iff_eq.mpr c5;have c5b1:(a0_2 != a1_2)=false:=bne_eq_false_iff_eq.mpr c5;clear c5;by_cases c6:a0_3=a1_3
    ·rw[if_pos c6] at H
     have c6b0:(a0_3==a1_3)=true:=beq_iff_eq.mpr c6;have c6b1:(a0_3 != a1_3)=false:=bne_eq_false_iff_eq.mpr c6;clear c6;obtain⟨t103,A7,H⟩:=qD_ H;(try dsimp only at H);obtain rfl:=zKq H;go_enter Try.func134,Try.ntmps134;go_wp2_with (first|((with_reducible refine gate_dst (N:=2) rfl ?_);refine box_event qr (N:=2) qr (cs:= #[.int .i64 a0_0,.int .i64 a0_1,.int .i64 a0_2,.int .i64 a0_3,.slice A0_4 l0_4.length c0_4]) (t:=71) qg ?_;intro gb101 hg w8 hbox hb;have BK101:=zA (hbox);have GW101:=zA ((qS:w.heap.size≤gb101));have GE101:=zA ((qS:w.heap.size≤gb101));replace HB:=zA (zV qB hb);clear hb hbox hg)|((with_reducible refine gate_dst (N:=3) rfl ?_);refine box_event qr (N:=3) qr (cs:= #[.int .i64 a1_0,.int .i64 a1_1,.int .i64 a1_2,.int .i64 a1_3,.slice A1_4 l1_4.length c1_4]) (t:=71) qg ?_;intro gb102 hg w9 hbox hb;have BK102:=zA (hbox);have GW102:=zA ((qS:w.heap.size≤gb102));have GE102:=zA ((qS:w.heap.size≤gb102));replace HB:=zA (zV qB hb);have NB101_102:=zA ((by rw[hg];exact zLq (qL BK101.out):gb101≠gb102));have NB102_101:=zA ((by rw[hg];exact zMq (qL BK101.out):gb102≠gb101));replace BK101:=zA (qX BK101.out hb);clear hb hbox hg;have hnb10:=NB101_102.out;have hnc10:=NB102_101.out;obtain⟨_,_,_,_,_,_,_,_,_,_⟩:=qc5f BK101.out;obtain⟨_,_,_,_,_,_,_,_,_,_⟩:=qc5f BK102.out)|(go_at_call 135;(with_reducible refine(bC.calls k _ _ l0_4 _ _ l1_4 t103 _ ?side1 ?side2 ?side3 ?side4 A7.out).mono ?_);(case side1=>exact qC (Kd.C_below HR0_4.out HB.out));(case side2=>exact HC0_4.out);(case side3=>exact qC (Kd.C_below HR1_4.out HB.out));(case side4=>exact HC1_4.out);rintro e w' ⟨rfl,⟨nd,rfl⟩⟩));go_ret;exact⟨qE,qB⟩
    rw[if_neg c6] at H;have c6b0:(a0_3==a1_3)=false:=beq_eq_false_iff_ne.mpr c6;have c6b1:(a0_3 != a1_3)=true:=bne_iff_ne.mpr c6;obtain rfl:=zKq H;go_enter Try.func134,Try.ntmps134;go_wp2_with (first|((with_reducible refine gate_dst (N:=2) rfl ?_);refine box_event qr (N:=2) qr (cs:= #[.int .i64 a0_0,.int .i64 a0_1,.int .i64 a0_2,.int .i64 a0_3,.slice A0_4 l0_4.length c0_4]) (t:=71) qg ?_;intro gb101 hg w13 hbox hb;have BK101:=zA (hbox);have GW101:=zA ((qS:w.heap.size≤gb101));have GE101:=zA ((qS:w.heap.size≤gb101));replace HB:=zA (zV qB hb);clear hb hbox hg)|((with_reducible refine gate_dst (N:=3) rfl ?_);refine box_event qr (N:=3) qr (cs:= #[.int .i64 a1_0,.int .i64 a1_1,.int .i64 a1_2,.int .i64 a1_3,.slice A1_4 l1_4.length c1_4]) (t:=71) qg ?_;intro gb102 hg w14 hbox hb;have BK102:=zA (hbox);have GW102:=zA ((qS:w.heap.size≤gb102));have GE102:=zA ((qS:w.heap.size≤gb102));replace HB:=zA (zV qB hb);have NB101_102:=zA ((by rw[hg];exact zLq (qL BK101.out):gb101≠gb102));have NB102_101:=zA ((by rw[hg];exact zMq (qL BK101.out):gb102≠gb101));replace BK101:=zA (qX BK101.out hb);clear hb hbox hg;have hnb15:=NB101_102.out;have hnc15:=NB102_101.out;obtain⟨_,_,_,_,_,_,_,_,_,_⟩:=qc5f BK101.out;obtain⟨_,_,_,_,_,_,_,_,_,_⟩:=qc5f BK102.out));go_ret;exact⟨qE,qB⟩
   rw[if_neg c5] at H;have c5b0:(a0_2==a1_2)=false:=beq_eq_false_iff_ne.mpr c5;have c5b1:(a0_2 != a1_2)=true:=bne_iff_ne.mpr c5;obtain rfl:=zKq H;go_enter Try.func134,Try.ntmps134;go_wp2_with (first|((with_reducible refine gate_dst (N:=2) rfl ?_);refine box_event qr (N:=2) qr (cs:= #[.int .i64 a0_0,.int .i64 a0_1,.int .i64 a0_2,.int .i64 a0_3,.slice A0_4 l0_4.length c0_4]) (t:=71) qg ?_;intro gb101 hg w18 hbox hb;have BK101:=zA (hbox);have GW101:=zA ((qS:w.heap.size≤gb101));have GE101:=zA ((qS:w.heap.size≤gb101));replace HB:=zA (zV qB hb);clear hb hbox hg)|((with_reducible refine gate_dst (N:=3) rfl ?_);refine box_event qr (N:=3) qr (cs:= #[.int .i64 a1_0,.int .i64 a1_1,.int .i64 a1_2,.int .i64 a1_3,.slice A1_4 l1_4.length c1_4]) (t:=71) qg ?_;intro gb102 hg w19 hbox hb;have BK102:=zA (hbox);have GW102:=zA ((qS:w.heap.size≤gb102));have GE102:=zA ((qS:w.heap.size≤gb102));replace HB:=zA (zV qB hb);have NB101_102:=zA ((by rw[hg];exact zLq (qL BK101.out):gb101≠gb102));have NB102_101:=zA ((by rw[hg];exact zMq (qL BK101.out):gb102≠gb101));replace BK101:=zA (qX BK101.out hb);clear hb hbox hg;have hnb20:=NB101_102.out;have hnc20:=NB102_101.out;obtain⟨_,_,_,_,_,_,_,_,_,_⟩:=qc5f BK101.out;obtain⟨_,_,_,_,_,_,_,_,_,_⟩:=qc5f BK102.out));go_ret;exact⟨qE,qB⟩
  rw[if_neg c4] at H;have c4b0:(a0_1==a1_1)=false:=beq_eq_false_iff_ne.mpr c4;have c4b1:(a0_1 != a1_1)=true:=bne_iff_ne.mpr c4;obtain rfl:=zKq H;go_enter Try.func134,Try.ntmps134;go_wp2_with (first|((with_reducible refine gate_dst (N:=2) rfl ?_);refine box_event qr (N:=2) qr (cs:= #[.int .i64 a0_0,.int .i64 a0_1,.int .i64 a0_2,.int .i64 a0_3,.slice A0_4 l0_4.length c0_4]) (t:=71) qg ?_;intro gb101 hg w23 hbox hb;have BK101:=zA (hbox);have GW101:=zA ((qS:w.heap.size≤gb101));have GE101:=zA ((qS:w.heap.size≤gb101));replace HB:=zA (zV qB hb);clear hb hbox hg)|((with_reducible refine gate_dst (N:=3) rfl ?_);refine box_event qr (N:=3) qr (cs:= #[.int .i64 a1_0,.int .i64 a1_1,.int .i64 a1_2,.int .i64 a1_3,.slice A1_4 l1_4.length c1_4]) (t:=71) qg ?_;intro gb102 hg w24 hbox hb;have BK102:=zA (hbox);have GW102:=zA ((qS:w.heap.size≤gb102));have GE102:=zA ((qS:w.heap.size≤gb102));replace HB:=zA (zV qB hb);have NB101_102:=zA ((by rw[hg];exact zLq (qL BK101.out):gb101≠gb102));have NB102_101:=zA ((by rw[hg];exact zMq (qL BK101.out):gb102≠gb101));replace BK101:=zA (qX BK101.out hb);clear hb hbox hg;have hnb25:=NB101_102.out;have hnc25:=NB102_101.out;obtain⟨_,_,_,_,_,_,_,_,_,_⟩:=qc5f BK101.out;obtain⟨_,_,_,_,_,_,_,_,_,_⟩:=qc5f BK102.out));go_ret;exact⟨qE,qB⟩
 rw[if_neg c3] at H
 have c3b0:(a0_0==a1_0)=false:=beq_eq_false_iff_ne.mpr c3
 have c3b1:(a0_0 != a1_0)=true:=bne_iff_ne.mpr c3
 obtain rfl:=zKq H
 go_enter Try.func134,Try.ntmps134
 go_wp2_with (first|((with_reducible refine gate_dst (N:=2) rfl ?_);refine box_event qr (N:=2) qr (cs:= #[.int .i64 a0_0,.int .i64 a0_1,.int .i64 a0_2,.int .i64 a0_3,.slice A0_4 l0_4.length c0_4]) (t:=71) qg ?_;intro gb101 hg w28 hbox hb;have BK101:=zA (hbox);have GW101:=zA ((qS:w.heap.size≤gb101));have GE101:=zA ((qS:w.heap.size≤gb101));replace HB:=zA (zV qB hb);clear hb hbox hg)|((with_reducible refine gate_dst (N:=3) rfl ?_);refine box_event qr (N:=3) qr (cs:= #[.int .i64 a1_0,.int .i64 a1_1,.int .i64 a1_2,.int .i64 a1_3,.slice A1_4 l1_4.length c1_4]) (t:=71) qg ?_;intro gb102 hg w29 hbox hb;have BK102:=zA (hbox);have GW102:=zA ((qS:w.heap.size≤gb102));have GE102:=zA ((qS:w.heap.size≤gb102));replace HB:=zA (zV qB hb);have NB101_102:=zA ((by rw[hg];exact zLq (qL BK101.out):gb101≠gb102));have NB102_101:=zA ((by rw[hg];exact zMq (qL BK101.out):gb102≠gb101));replace BK101:=zA (qX BK101.out hb);clear hb hbox hg;have hnb30:=NB101_102.out;have hnc30:=NB102_101.out;obtain⟨_,_,_,_,_,_,_,_,_,_⟩:=qc5f BK101.out;obtain⟨_,_,_,_,_,_,_,_,_,_⟩:=qc5f BK102.out))
 go_ret
 exact⟨qE,qB⟩
def aX.l0:Nat→List (S71)→List (S71)→Int→Int→Option (Bool)
  |0,_,_,_,_=>none
  |k+1,x1,x15,x16,x17=>if x17 < x16 then(if 0≤x17 then(if x17 < (x15.length:Int)then(if x17 < (x1.length:Int)then((cP.f k ((rd_T71 x15 x17).f0) ((rd_T71 x15 x17).f1) ((rd_T71 x15 x17).f2) ((rd_T71 x15 x17).f3) ((rd_T71 x15 x17).f4) ((rd_T71 x1 x17).f0) ((rd_T71 x1 x17).f1) ((rd_T71 x1 x17).f2) ((rd_T71 x1 x17).f3) ((rd_T71 x1 x17).f4)).bind fun t105=> (if t105=true then(aX.l0 k x1 x15 x16 (wrap64 (x17+1)))else(some false)))else(none))else(none))else(none))else(some true)
def aX.f (k:Nat) (l0:List (S71)) (l1:List (S71)):Option (Bool):=if(l0.length:Int)=(l1.length:Int)then(aX.l0 k l1 l0 (l0.length:Int) 0)else(some false)
theorem aX.mono_l: ∀ k,(∀ y0 y1 y2 y3,LeO (aX.l0 k y0 y1 y2 y3) (aX.l0 (k+1) y0 y1 y2 y3))
  |0=>fun _ _ _ _ r h=>by simp[aX.l0] at h
  |k+1=>by
    have ih0:=aX.mono_l k
    intro y0 y1 y2 y3
    unfold aX.l0
    repeat' (with_reducible first|exact ih0 _ _ _ _|exact cP.mono _ _ _ _ _ _ _ _ _ _ _|exact LeO.refl _|exact LeO.none _|refine LeO.ite ?_ ?_|refine LeO.bind ?_ (fun _=>?_))
theorem aX.mono: ∀ a0 a1 k,LeO (aX.f k a0 a1) (aX.f (k+1) a0 a1):=by
  intro a0 a1 k
  have ih0:=aX.mono_l k
  unfold aX.f
  repeat' (with_reducible first|exact ih0 _ _ _ _|exact cP.mono _ _ _ _ _ _ _ _ _ _ _|exact LeO.refl _|exact LeO.none _|refine LeO.ite ?_ ?_|refine LeO.bind ?_ (fun _=>?_))
theorem aX.calls (k:Nat) (A0:Option Addr) (c0:Nat) (l0:List (S71)) (A1:Option Addr) (c1:Nat) (l1:List (S71)) (r:Bool) (w:World) (hr0:Kd.C k71 w A0 l0.length l0) (hc0:l0.length≤c0) (hr1:Kd.C k71 w A1 l1.length l1) (hc1:l1.length≤c1) (h:aX.f k l0 l1=some r):
  Calls Try.prog 133 #[.slice A0 l0.length c0,.slice A1 l1.length c1,.func (.func 134) #[] #[]] w fun e w'=>e= .returned (.bool r)∧Below w.heap.size w w':=by
 have hu71:=Try.underlying71
 have HR0:=zA hr0
 have HC0:=zA hc0
 clear hr0 hc0
 have HR1:=zA hr1
 have HC1:=zA hc1
 clear hr1 hc1
 have HB:=zA (Below.refl w.heap.size w)
 have H:(if(l0.length:Int)=(l1.length:Int)then(aX.l0 k l1 l0 (l0.length:Int) 0)else(some false))=some r:=h
 clear h
 by_cases c4:(l0.length:Int)=(l1.length:Int)
 ·rw[if_pos c4] at H
  have c4b0:((l0.length:Int)==(l1.length:Int))=true:=beq_iff_eq.mpr c4;have c4b1:((l0.length:Int) !=(l1.length:Int))=false:=bne_eq_false_iff_eq.mpr c4;have c4b2:(l0.length==l1.length)=true:=by first|simpa using c4|(simp at c4⊢;omega)
  clear c4;have H':=zA H;clear H;go_enter Try.func133,Try.ntmps133;go_wp2;go_loopg[17] k (fun kq v17 w'=> ∃ (x17_1:Int),v17= .int .i64 x17_1∧Aside0 (aX.l0 kq l1 l0 (l0.length:Int) x17_1=some r)∧Aside0 (kq≤k)∧Aside0 (Below w.heap.size w w'))
  case atStart=>exact⟨(0),qF_,H',⟨Nat.le_refl _⟩,⟨qB⟩⟩
  case round=>
   clear H';try clear c1
   try clear p2
   try clear c4
   try clear c4b0
   try clear c4b1
   try clear c4b2
   obtain⟨x17_1,rfl,HA,HK1,HB⟩:=hrel;cases gk with
   |zero=>exact absurd HA.out (by simp[aX.l0])
   |succ k1=>
    have H:=HA.out;clear HA;simp only[aX.l0] at H;by_cases c5:x17_1 < (l0.length:Int)
    ·rw[if_pos c5] at H
     have c5b0:=zFq c5;clear c5;by_cases c6:0≤x17_1
     ·rw[if_pos c6] at H
      have c6b0:=zFq c6;clear c6;by_cases c7:x17_1 < (l0.length:Int)
      ·rw[if_pos c7] at H
       have c7b0:=zFq c7;clear c7;by_cases c8:x17_1 < (l1.length:Int)
       ·rw[if_pos c8] at H
        have c8b0:=zFq c8;clear c8;obtain⟨t105,A9,H⟩:=qD_ H;(try dsimp only at H);by_cases c10:t105=true
        ·subst c10
         have H1:(aX.l0 k1 l1 l0 (l0.length:Int) (wrap64 (x17_1+1)))=some r:=by first|(rw[if_pos rfl] at H;exact H)|rfl
         clear H;have H:=H1;clear H1;have H':=zA H;clear H;have p101:0≤(x17_1:Int):=qO_;have q101:x17_1 < (l0.length:Int):=qO_;obtain⟨ad101,A101_4,c101_4,e101,hx101_0,hx101_1,hx101_2,hx101_3,hx101_4,hl101_4,hi101_4⟩:=at_T71 HR0.out x17_1 p101 q101;cases e101
         replace hx101_0:=qU_ hx101_0;replace hx101_1:=qU_ hx101_1;replace hx101_2:=qU_ hx101_2;replace hx101_3:=qU_ hx101_3;replace hx101_4:=qU_ hx101_4;have HR101_4:=zA hi101_4;have HC101_4:=zA hl101_4;clear hi101_4 hl101_4;replace p101:=eq_true p101;replace q101:=eq_true q101;go_wp2_with (first|((with_reducible refine gate_dst (N:=8) rfl ?_);refine box_event qr (N:=8) qr (cs:= #[.int .i64 0,.int .i64 0,.int .i64 0,.int .i64 0,.slice none 0 0]) (t:=71) qg ?_;intro gb102 hg w11 hbox hb;have BK102:=zA (hbox);have GW102:=zA ((qS:w.heap.size≤gb102));have GE102:=zA ((qS:w.heap.size≤gb102));replace HB:=zA (zV qB hb);clear hb hbox hg;obtain⟨_,_,_,_,_,_,_,_,_,_⟩:=qc5f BK102.out;have p103:0≤(x17_1:Int):=qO_;have q103:x17_1 < (l1.length:Int):=qO_;obtain⟨ad103,A103_4,c103_4,e103,hx103_0,hx103_1,hx103_2,hx103_3,hx103_4,hl103_4,hi103_4⟩:=at_T71 HR1.out x17_1 p103 q103;cases e103;have hn103_0:ad103.block≠gb102:=zLq (Nat.lt_of_lt_of_le (by have:=zCq _ _ hx103_0;first|rwa [add_block] at this|exact this) GW102.out);have hn103_1:ad103.block≠gb102:=zLq (Nat.lt_of_lt_of_le (by have:=zCq _ _ hx103_0;first|rwa [add_block] at this|exact this) GW102.out);have hn103_2:ad103.block≠gb102:=zLq (Nat.lt_of_lt_of_le (by have:=zCq _ _ hx103_0;first|rwa [add_block] at this|exact this) GW102.out);have hn103_3:ad103.block≠gb102:=zLq (Nat.lt_of_lt_of_le (by have:=zCq _ _ hx103_0;first|rwa [add_block] at this|exact this) GW102.out);have hn103_4:ad103.block≠gb102:=zLq (Nat.lt_of_lt_of_le (by have:=zCq _ _ hx103_0;first|rwa [add_block] at this|exact this) GW102.out);replace hx103_0:=qU_ hx103_0;replace hx103_1:=qU_ hx103_1;replace hx103_2:=qU_ hx103_2;replace hx103_3:=qU_ hx103_3;replace hx103_4:=qU_ hx103_4;have HR103_4:=zA hi103_4;have HC103_4:=zA hl103_4;clear hi103_4 hl103_4;replace hx103_0:=(cell_far (p:=⟨gb102,0,none⟩) (by first|(rw[add_block];exact hn103_0)|(show(Addr.add _ _).block≠_;rw[add_block];exact hn103_0)|exact hn103_0) (.int .i64 ((rd_T71 l0 x17_1).f0))).trans hx103_0;replace hx103_1:=(cell_far (p:=⟨gb102,0,none⟩) (by first|(rw[add_block];exact hn103_0)|(show(Addr.add _ _).block≠_;rw[add_block];exact hn103_0)|exact hn103_0) (.int .i64 ((rd_T71 l0 x17_1).f0))).trans hx103_1;replace hx103_2:=(cell_far (p:=⟨gb102,0,none⟩) (by first|(rw[add_block];exact hn103_0)|(show(Addr.add _ _).block≠_;rw[add_block];exact hn103_0)|exact hn103_0) (.int .i64 ((rd_T71 l0 x17_1).f0))).trans hx103_2;replace hx103_3:=(cell_far (p:=⟨gb102,0,none⟩) (by first|(rw[add_block];exact hn103_0)|(show(Addr.add _ _).block≠_;rw[add_block];exact hn103_0)|exact hn103_0) (.int .i64 ((rd_T71 l0 x17_1).f0))).trans hx103_3;replace hx103_4:=(cell_far (p:=⟨gb102,0,none⟩) (by first|(rw[add_block];exact hn103_0)|(show(Addr.add _ _).block≠_;rw[add_block];exact hn103_0)|exact hn103_0) (.int .i64 ((rd_T71 l0 x17_1).f0))).trans hx103_4;replace hx103_0:=(cell_far (p:=⟨gb102,1,none⟩) (by first|(rw[add_block];exact hn103_1)|(show(Addr.add _ _).block≠_;rw[add_block];exact hn103_1)|exact hn103_1) (.int .i64 ((rd_T71 l0 x17_1).f1))).trans hx103_0;replace hx103_1:=(cell_far (p:=⟨gb102,1,none⟩) (by first|(rw[add_block];exact hn103_1)|(show(Addr.add _ _).block≠_;rw[add_block];exact hn103_1)|exact hn103_1) (.int .i64 ((rd_T71 l0 x17_1).f1))).trans hx103_1;replace hx103_2:=(cell_far (p:=⟨gb102,1,none⟩) (by first|(rw[add_block];exact hn103_1)|(show(Addr.add _ _).block≠_;rw[add_block];exact hn103_1)|exact hn103_1) (.int .i64 ((rd_T71 l0 x17_1).f1))).trans hx103_2;replace hx103_3:=(cell_far (p:=⟨gb102,1,none⟩) (by first|(rw[add_block];exact hn103_1)|(show(Addr.add _ _).block≠_;rw[add_block];exact hn103_1)|exact hn103_1) (.int .i64 ((rd_T71 l0 x17_1).f1))).trans hx103_3;replace hx103_4:=(cell_far (p:=⟨gb102,1,none⟩) (by first|(rw[add_block];exact hn103_1)|(show(Addr.add _ _).block≠_;rw[add_block];exact hn103_1)|exact hn103_1) (.int .i64 ((rd_T71 l0 x17_1).f1))).trans hx103_4;replace hx103_0:=(cell_far (p:=⟨gb102,2,none⟩) (by first|(rw[add_block];exact hn103_2)|(show(Addr.add _ _).block≠_;rw[add_block];exact hn103_2)|exact hn103_2) (.int .i64 ((rd_T71 l0 x17_1).f2))).trans hx103_0;replace hx103_1:=(cell_far (p:=⟨gb102,2,none⟩) (by first|(rw[add_block];exact hn103_2)|(show(Addr.add _ _).block≠_;rw[add_block];exact hn103_2)|exact hn103_2) (.int .i64 ((rd_T71 l0 x17_1).f2))).trans hx103_1;replace hx103_2:=(cell_far (p:=⟨gb102,2,none⟩) (by first|(rw[add_block];exact hn103_2)|(show(Addr.add _ _).block≠_;rw[add_block];exact hn103_2)|exact hn103_2) (.int .i64 ((rd_T71 l0 x17_1).f2))).trans hx103_2;replace hx103_3:=(cell_far (p:=⟨gb102,2,none⟩) (by first|(rw[add_block];exact hn103_2)|(show(Addr.add _ _).block≠_;rw[add_block];exact hn103_2)|exact hn103_2) (.int .i64 ((rd_T71 l0 x17_1).f2))).trans hx103_3;replace hx103_4:=(cell_far (p:=⟨gb102,2,none⟩) (by first|(rw[add_block];exact hn103_2)|(show(Addr.add _ _).block≠_;rw[add_block];exact hn103_2)|exact hn103_2) (.int .i64 ((rd_T71 l0 x17_1).f2))).trans hx103_4;replace hx103_0:=(cell_far (p:=⟨gb102,3,none⟩) (by first|(rw[add_block];exact hn103_3)|(show(Addr.add _ _).block≠_;rw[add_block];exact hn103_3)|exact hn103_3) (.int .i64 ((rd_T71 l0 x17_1).f3))).trans hx103_0;replace hx103_1:=(cell_far (p:=⟨gb102,3,none⟩) (by first|(rw[add_block];exact hn103_3)|(show(Addr.add _ _).block≠_;rw[add_block];exact hn103_3)|exact hn103_3) (.int .i64 ((rd_T71 l0 x17_1).f3))).trans hx103_1;replace hx103_2:=(cell_far (p:=⟨gb102,3,none⟩) (by first|(rw[add_block];exact hn103_3)|(show(Addr.add _ _).block≠_;rw[add_block];exact hn103_3)|exact hn103_3) (.int .i64 ((rd_T71 l0 x17_1).f3))).trans hx103_2;replace hx103_3:=(cell_far (p:=⟨gb102,3,none⟩) (by first|(rw[add_block];exact hn103_3)|(show(Addr.add _ _).block≠_;rw[add_block];exact hn103_3)|exact hn103_3) (.int .i64 ((rd_T71 l0 x17_1).f3))).trans hx103_3;replace hx103_4:=(cell_far (p:=⟨gb102,3,none⟩) (by first|(rw[add_block];exact hn103_3)|(show(Addr.add _ _).block≠_;rw[add_block];exact hn103_3)|exact hn103_3) (.int .i64 ((rd_T71 l0 x17_1).f3))).trans hx103_4;replace hx103_0:=(cell_far (p:=⟨gb102,4,none⟩) (by first|(rw[add_block];exact hn103_4)|(show(Addr.add _ _).block≠_;rw[add_block];exact hn103_4)|exact hn103_4) (.slice A101_4 ((rd_T71 l0 x17_1).f4).length c101_4)).trans hx103_0;replace hx103_1:=(cell_far (p:=⟨gb102,4,none⟩) (by first|(rw[add_block];exact hn103_4)|(show(Addr.add _ _).block≠_;rw[add_block];exact hn103_4)|exact hn103_4) (.slice A101_4 ((rd_T71 l0 x17_1).f4).length c101_4)).trans hx103_1;replace hx103_2:=(cell_far (p:=⟨gb102,4,none⟩) (by first|(rw[add_block];exact hn103_4)|(show(Addr.add _ _).block≠_;rw[add_block];exact hn103_4)|exact hn103_4) (.slice A101_4 ((rd_T71 l0 x17_1).f4).length c101_4)).trans hx103_2;replace hx103_3:=(cell_far (p:=⟨gb102,4,none⟩) (by first|(rw[add_block];exact hn103_4)|(show(Addr.add _ _).block≠_;rw[add_block];exact hn103_4)|exact hn103_4) (.slice A101_4 ((rd_T71 l0 x17_1).f4).length c101_4)).trans hx103_3;replace hx103_4:=(cell_far (p:=⟨gb102,4,none⟩) (by first|(rw[add_block];exact hn103_4)|(show(Addr.add _ _).block≠_;rw[add_block];exact hn103_4)|exact hn103_4) (.slice A101_4 ((rd_T71 l0 x17_1).f4).length c101_4)).trans hx103_4;clear hn103_0 hn103_1 hn103_2 hn103_3 hn103_4;replace p103:=eq_true p103;replace q103:=eq_true q103)|((with_reducible refine gate_dst (N:=9) rfl ?_);refine box_event qr (N:=9) qr (cs:= #[.int .i64 0,.int .i64 0,.int .i64 0,.int .i64 0,.slice none 0 0]) (t:=71) qg ?_;intro gb104 hg w13 hbox hb;have BK104:=zA (hbox);have GW104:=zA ((qS:w.heap.size≤gb104));have GE104:=zA ((qS:w.heap.size≤gb104));replace HB:=zA (zV qB hb);have NB102_104:=zA ((by rw[hg];exact zLq (blk_lt (g:=gb102) (o:= .cells #[.int .i64 ((rd_T71 l0 x17_1).f0),.int .i64 ((rd_T71 l0 x17_1).f1),.int .i64 ((rd_T71 l0 x17_1).f2),.int .i64 ((rd_T71 l0 x17_1).f3),.slice A101_4 ((rd_T71 l0 x17_1).f4).length c101_4] 71 (0,0)) (qV BK102.out)):gb102≠gb104));have NB104_102:=zA ((by rw[hg];exact zMq (blk_lt (g:=gb102) (o:= .cells #[.int .i64 ((rd_T71 l0 x17_1).f0),.int .i64 ((rd_T71 l0 x17_1).f1),.int .i64 ((rd_T71 l0 x17_1).f2),.int .i64 ((rd_T71 l0 x17_1).f3),.slice A101_4 ((rd_T71 l0 x17_1).f4).length c101_4] 71 (0,0)) (qV BK102.out)):gb104≠gb102));replace BK102:=zA (zX (g:=gb102) (o:= .cells #[.int .i64 ((rd_T71 l0 x17_1).f0),.int .i64 ((rd_T71 l0 x17_1).f1),.int .i64 ((rd_T71 l0 x17_1).f2),.int .i64 ((rd_T71 l0 x17_1).f3),.slice A101_4 ((rd_T71 l0 x17_1).f4).length c101_4] 71 (0,0)) (qV BK102.out) hb);clear hb hbox hg;have hnb14:=NB104_102.out;have hnc14:=NB102_104.out;obtain⟨_,_,_,_,_,_,_,_,_,_⟩:=qc5f BK104.out;obtain⟨_,_,_,_,_,_,_,_,_,_⟩:=qc5f BK102.out)|(go_at_call 134;(with_reducible refine(cP.calls k1 ((rd_T71 l0 x17_1).f0) ((rd_T71 l0 x17_1).f1) ((rd_T71 l0 x17_1).f2) ((rd_T71 l0 x17_1).f3) _ _ ((rd_T71 l0 x17_1).f4) ((rd_T71 l1 x17_1).f0) ((rd_T71 l1 x17_1).f1) ((rd_T71 l1 x17_1).f2) ((rd_T71 l1 x17_1).f3) _ _ ((rd_T71 l1 x17_1).f4) true _ ?side1 ?side2 ?side3 ?side4 A9.out).mono ?_);(case side1=>exact Kd.C_below HR101_4.out qB);(case side2=>exact HC101_4.out);(case side3=>exact Kd.C_below HR103_4.out qB);(case side4=>exact HC103_4.out);rintro e w17 ⟨rfl,hb⟩;replace BK102:=zA (qX BK102.out hb);replace BK104:=zA (zX (g:=gb104) (o:= .cells #[.int .i64 ((rd_T71 l1 x17_1).f0),.int .i64 ((rd_T71 l1 x17_1).f1),.int .i64 ((rd_T71 l1 x17_1).f2),.int .i64 ((rd_T71 l1 x17_1).f3),.slice A103_4 ((rd_T71 l1 x17_1).f4).length c103_4] 71 (0,0)) (qV BK104.out) hb);replace HB:=zA (zV qB hb);(try clear hb)))
         go_roundg k1
         case measure=>have:=HK1.out;omega
         case rel=>exact⟨(wrap64 (x17_1+1)),qF_,H',⟨by have:=HK1.out;omega⟩,⟨qB⟩⟩
        replace c10:=Bool.eq_false_iff.mpr c10;subst c10;have H1:(some false)=some r:=by first|(rw[if_neg (show ¬ (false=true) by decide)] at H;exact H)|rfl
        clear H;have H:=H1;clear H1;obtain rfl:=zKq H;have p101:0≤(x17_1:Int):=qO_;have q101:x17_1 < (l0.length:Int):=qO_;obtain⟨ad101,A101_4,c101_4,e101,hx101_0,hx101_1,hx101_2,hx101_3,hx101_4,hl101_4,hi101_4⟩:=at_T71 HR0.out x17_1 p101 q101;cases e101
        replace hx101_0:=qU_ hx101_0;replace hx101_1:=qU_ hx101_1;replace hx101_2:=qU_ hx101_2;replace hx101_3:=qU_ hx101_3;replace hx101_4:=qU_ hx101_4;have HR101_4:=zA hi101_4;have HC101_4:=zA hl101_4;clear hi101_4 hl101_4;replace p101:=eq_true p101;replace q101:=eq_true q101;go_wp2_with (first|((with_reducible refine gate_dst (N:=8) rfl ?_);refine box_event qr (N:=8) qr (cs:= #[.int .i64 0,.int .i64 0,.int .i64 0,.int .i64 0,.slice none 0 0]) (t:=71) qg ?_;intro gb102 hg w18 hbox hb;have BK102:=zA (hbox);have GW102:=zA ((qS:w.heap.size≤gb102));have GE102:=zA ((qS:w.heap.size≤gb102));replace HB:=zA (zV qB hb);clear hb hbox hg;obtain⟨_,_,_,_,_,_,_,_,_,_⟩:=qc5f BK102.out;have p103:0≤(x17_1:Int):=qO_;have q103:x17_1 < (l1.length:Int):=qO_;obtain⟨ad103,A103_4,c103_4,e103,hx103_0,hx103_1,hx103_2,hx103_3,hx103_4,hl103_4,hi103_4⟩:=at_T71 HR1.out x17_1 p103 q103;cases e103;have hn103_0:ad103.block≠gb102:=zLq (Nat.lt_of_lt_of_le (by have:=zCq _ _ hx103_0;first|rwa [add_block] at this|exact this) GW102.out);have hn103_1:ad103.block≠gb102:=zLq (Nat.lt_of_lt_of_le (by have:=zCq _ _ hx103_0;first|rwa [add_block] at this|exact this) GW102.out);have hn103_2:ad103.block≠gb102:=zLq (Nat.lt_of_lt_of_le (by have:=zCq _ _ hx103_0;first|rwa [add_block] at this|exact this) GW102.out);have hn103_3:ad103.block≠gb102:=zLq (Nat.lt_of_lt_of_le (by have:=zCq _ _ hx103_0;first|rwa [add_block] at this|exact this) GW102.out);have hn103_4:ad103.block≠gb102:=zLq (Nat.lt_of_lt_of_le (by have:=zCq _ _ hx103_0;first|rwa [add_block] at this|exact this) GW102.out);replace hx103_0:=qU_ hx103_0;replace hx103_1:=qU_ hx103_1;replace hx103_2:=qU_ hx103_2;replace hx103_3:=qU_ hx103_3;replace hx103_4:=qU_ hx103_4;have HR103_4:=zA hi103_4;have HC103_4:=zA hl103_4;clear hi103_4 hl103_4;replace hx103_0:=(cell_far (p:=⟨gb102,0,none⟩) (by first|(rw[add_block];exact hn103_0)|(show(Addr.add _ _).block≠_;rw[add_block];exact hn103_0)|exact hn103_0) (.int .i64 ((rd_T71 l0 x17_1).f0))).trans hx103_0;replace hx103_1:=(cell_far (p:=⟨gb102,0,none⟩) (by first|(rw[add_block];exact hn103_0)|(show(Addr.add _ _).block≠_;rw[add_block];exact hn103_0)|exact hn103_0) (.int .i64 ((rd_T71 l0 x17_1).f0))).trans hx103_1;replace hx103_2:=(cell_far (p:=⟨gb102,0,none⟩) (by first|(rw[add_block];exact hn103_0)|(show(Addr.add _ _).block≠_;rw[add_block];exact hn103_0)|exact hn103_0) (.int .i64 ((rd_T71 l0 x17_1).f0))).trans hx103_2;replace hx103_3:=(cell_far (p:=⟨gb102,0,none⟩) (by first|(rw[add_block];exact hn103_0)|(show(Addr.add _ _).block≠_;rw[add_block];exact hn103_0)|exact hn103_0) (.int .i64 ((rd_T71 l0 x17_1).f0))).trans hx103_3;replace hx103_4:=(cell_far (p:=⟨gb102,0,none⟩) (by first|(rw[add_block];exact hn103_0)|(show(Addr.add _ _).block≠_;rw[add_block];exact hn103_0)|exact hn103_0) (.int .i64 ((rd_T71 l0 x17_1).f0))).trans hx103_4;replace hx103_0:=(cell_far (p:=⟨gb102,1,none⟩) (by first|(rw[add_block];exact hn103_1)|(show(Addr.add _ _).block≠_;rw[add_block];exact hn103_1)|exact hn103_1) (.int .i64 ((rd_T71 l0 x17_1).f1))).trans hx103_0;replace hx103_1:=(cell_far (p:=⟨gb102,1,none⟩) (by first|(rw[add_block];exact hn103_1)|(show(Addr.add _ _).block≠_;rw[add_block];exact hn103_1)|exact hn103_1) (.int .i64 ((rd_T71 l0 x17_1).f1))).trans hx103_1;replace hx103_2:=(cell_far (p:=⟨gb102,1,none⟩) (by first|(rw[add_block];exact hn103_1)|(show(Addr.add _ _).block≠_;rw[add_block];exact hn103_1)|exact hn103_1) (.int .i64 ((rd_T71 l0 x17_1).f1))).trans hx103_2;replace hx103_3:=(cell_far (p:=⟨gb102,1,none⟩) (by first|(rw[add_block];exact hn103_1)|(show(Addr.add _ _).block≠_;rw[add_block];exact hn103_1)|exact hn103_1) (.int .i64 ((rd_T71 l0 x17_1).f1))).trans hx103_3;replace hx103_4:=(cell_far (p:=⟨gb102,1,none⟩) (by first|(rw[add_block];exact hn103_1)|(show(Addr.add _ _).block≠_;rw[add_block];exact hn103_1)|exact hn103_1) (.int .i64 ((rd_T71 l0 x17_1).f1))).trans hx103_4;replace hx103_0:=(cell_far (p:=⟨gb102,2,none⟩) (by first|(rw[add_block];exact hn103_2)|(show(Addr.add _ _).block≠_;rw[add_block];exact hn103_2)|exact hn103_2) (.int .i64 ((rd_T71 l0 x17_1).f2))).trans hx103_0;replace hx103_1:=(cell_far (p:=⟨gb102,2,none⟩) (by first|(rw[add_block];exact hn103_2)|(show(Addr.add _ _).block≠_;rw[add_block];exact hn103_2)|exact hn103_2) (.int .i64 ((rd_T71 l0 x17_1).f2))).trans hx103_1;replace hx103_2:=(cell_far (p:=⟨gb102,2,none⟩) (by first|(rw[add_block];exact hn103_2)|(show(Addr.add _ _).block≠_;rw[add_block];exact hn103_2)|exact hn103_2) (.int .i64 ((rd_T71 l0 x17_1).f2))).trans hx103_2;replace hx103_3:=(cell_far (p:=⟨gb102,2,none⟩) (by first|(rw[add_block];exact hn103_2)|(show(Addr.add _ _).block≠_;rw[add_block];exact hn103_2)|exact hn103_2) (.int .i64 ((rd_T71 l0 x17_1).f2))).trans hx103_3;replace hx103_4:=(cell_far (p:=⟨gb102,2,none⟩) (by first|(rw[add_block];exact hn103_2)|(show(Addr.add _ _).block≠_;rw[add_block];exact hn103_2)|exact hn103_2) (.int .i64 ((rd_T71 l0 x17_1).f2))).trans hx103_4;replace hx103_0:=(cell_far (p:=⟨gb102,3,none⟩) (by first|(rw[add_block];exact hn103_3)|(show(Addr.add _ _).block≠_;rw[add_block];exact hn103_3)|exact hn103_3) (.int .i64 ((rd_T71 l0 x17_1).f3))).trans hx103_0;replace hx103_1:=(cell_far (p:=⟨gb102,3,none⟩) (by first|(rw[add_block];exact hn103_3)|(show(Addr.add _ _).block≠_;rw[add_block];exact hn103_3)|exact hn103_3) (.int .i64 ((rd_T71 l0 x17_1).f3))).trans hx103_1;replace hx103_2:=(cell_far (p:=⟨gb102,3,none⟩) (by first|(rw[add_block];exact hn103_3)|(show(Addr.add _ _).block≠_;rw[add_block];exact hn103_3)|exact hn103_3) (.int .i64 ((rd_T71 l0 x17_1).f3))).trans hx103_2;replace hx103_3:=(cell_far (p:=⟨gb102,3,none⟩) (by first|(rw[add_block];exact hn103_3)|(show(Addr.add _ _).block≠_;rw[add_block];exact hn103_3)|exact hn103_3) (.int .i64 ((rd_T71 l0 x17_1).f3))).trans hx103_3;replace hx103_4:=(cell_far (p:=⟨gb102,3,none⟩) (by first|(rw[add_block];exact hn103_3)|(show(Addr.add _ _).block≠_;rw[add_block];exact hn103_3)|exact hn103_3) (.int .i64 ((rd_T71 l0 x17_1).f3))).trans hx103_4;replace hx103_0:=(cell_far (p:=⟨gb102,4,none⟩) (by first|(rw[add_block];exact hn103_4)|(show(Addr.add _ _).block≠_;rw[add_block];exact hn103_4)|exact hn103_4) (.slice A101_4 ((rd_T71 l0 x17_1).f4).length c101_4)).trans hx103_0;replace hx103_1:=(cell_far (p:=⟨gb102,4,none⟩) (by first|(rw[add_block];exact hn103_4)|(show(Addr.add _ _).block≠_;rw[add_block];exact hn103_4)|exact hn103_4) (.slice A101_4 ((rd_T71 l0 x17_1).f4).length c101_4)).trans hx103_1;replace hx103_2:=(cell_far (p:=⟨gb102,4,none⟩) (by first|(rw[add_block];exact hn103_4)|(show(Addr.add _ _).block≠_;rw[add_block];exact hn103_4)|exact hn103_4) (.slice A101_4 ((rd_T71 l0 x17_1).f4).length c101_4)).trans hx103_2;replace hx103_3:=(cell_far (p:=⟨gb102,4,none⟩) (by first|(rw[add_block];exact hn103_4)|(show(Addr.add _ _).block≠_;rw[add_block];exact hn103_4)|exact hn103_4) (.slice A101_4 ((rd_T71 l0 x17_1).f4).length c101_4)).trans hx103_3;replace hx103_4:=(cell_far (p:=⟨gb102,4,none⟩) (by first|(rw[add_block];exact hn103_4)|(show(Addr.add _ _).block≠_;rw[add_block];exact hn103_4)|exact hn103_4) (.slice A101_4 ((rd_T71 l0 x17_1).f4).length c101_4)).trans hx103_4;clear hn103_0 hn103_1 hn103_2 hn103_3 hn103_4;replace p103:=eq_true p103;replace q103:=eq_true q103)|((with_reducible refine gate_dst (N:=9) rfl ?_);refine box_event qr (N:=9) qr (cs:= #[.int .i64 0,.int .i64 0,.int .i64 0,.int .i64 0,.slice none 0 0]) (t:=71) qg ?_;intro gb104 hg w20 hbox hb;have BK104:=zA (hbox);have GW104:=zA ((qS:w.heap.size≤gb104));have GE104:=zA ((qS:w.heap.size≤gb104));replace HB:=zA (zV qB hb);have NB102_104:=zA ((by rw[hg];exact zLq (blk_lt (g:=gb102) (o:= .cells #[.int .i64 ((rd_T71 l0 x17_1).f0),.int .i64 ((rd_T71 l0 x17_1).f1),.int .i64 ((rd_T71 l0 x17_1).f2),.int .i64 ((rd_T71 l0 x17_1).f3),.slice A101_4 ((rd_T71 l0 x17_1).f4).length c101_4] 71 (0,0)) (qV BK102.out)):gb102≠gb104));have NB104_102:=zA ((by rw[hg];exact zMq (blk_lt (g:=gb102) (o:= .cells #[.int .i64 ((rd_T71 l0 x17_1).f0),.int .i64 ((rd_T71 l0 x17_1).f1),.int .i64 ((rd_T71 l0 x17_1).f2),.int .i64 ((rd_T71 l0 x17_1).f3),.slice A101_4 ((rd_T71 l0 x17_1).f4).length c101_4] 71 (0,0)) (qV BK102.out)):gb104≠gb102));replace BK102:=zA (zX (g:=gb102) (o:= .cells #[.int .i64 ((rd_T71 l0 x17_1).f0),.int .i64 ((rd_T71 l0 x17_1).f1),.int .i64 ((rd_T71 l0 x17_1).f2),.int .i64 ((rd_T71 l0 x17_1).f3),.slice A101_4 ((rd_T71 l0 x17_1).f4).length c101_4] 71 (0,0)) (qV BK102.out) hb);clear hb hbox hg;have hnb21:=NB104_102.out;have hnc21:=NB102_104.out;obtain⟨_,_,_,_,_,_,_,_,_,_⟩:=qc5f BK104.out;obtain⟨_,_,_,_,_,_,_,_,_,_⟩:=qc5f BK102.out)|(go_at_call 134;(with_reducible refine(cP.calls k1 ((rd_T71 l0 x17_1).f0) ((rd_T71 l0 x17_1).f1) ((rd_T71 l0 x17_1).f2) ((rd_T71 l0 x17_1).f3) _ _ ((rd_T71 l0 x17_1).f4) ((rd_T71 l1 x17_1).f0) ((rd_T71 l1 x17_1).f1) ((rd_T71 l1 x17_1).f2) ((rd_T71 l1 x17_1).f3) _ _ ((rd_T71 l1 x17_1).f4) false _ ?side1 ?side2 ?side3 ?side4 A9.out).mono ?_);(case side1=>exact Kd.C_below HR101_4.out qB);(case side2=>exact HC101_4.out);(case side3=>exact Kd.C_below HR103_4.out qB);(case side4=>exact HC103_4.out);rintro e w24 ⟨rfl,hb⟩;replace BK102:=zA (qX BK102.out hb);replace BK104:=zA (zX (g:=gb104) (o:= .cells #[.int .i64 ((rd_T71 l1 x17_1).f0),.int .i64 ((rd_T71 l1 x17_1).f1),.int .i64 ((rd_T71 l1 x17_1).f2),.int .i64 ((rd_T71 l1 x17_1).f3),.slice A103_4 ((rd_T71 l1 x17_1).f4).length c103_4] 71 (0,0)) (qV BK104.out) hb);replace HB:=zA (zV qB hb);(try clear hb)))
        go_ret;exact⟨qE,qB⟩
       rw[if_neg c8] at H;exact absurd H (by simp)
      rw[if_neg c7] at H;exact absurd H (by simp)
     rw[if_neg c6] at H;exact absurd H (by simp)
    rw[if_neg c5] at H;have c5b0:=zGq c5;clear c5;obtain rfl:=zKq H;go_wp2;go_ret;exact⟨qE,qB⟩
 rw[if_neg c4] at H
 have c4b0:((l0.length:Int)==(l1.length:Int))=false:=beq_eq_false_iff_ne.mpr c4
 have c4b1:((l0.length:Int) !=(l1.length:Int))=true:=bne_iff_ne.mpr c4
 have c4b2:(l0.length==l1.length)=false:=by first|simpa using c4|(simp at c4⊢;omega)
 obtain rfl:=zKq H
 go_enter Try.func133,Try.ntmps133
 go_wp2
 go_ret
 exact⟨qE,qB⟩
def cT.f (k:Nat) (a0_0:Int) (a0_1:Int) (l0_2:List (S71)) (a1_0:Int) (a1_1:Int) (l1_2:List (S71)):Option (Bool):=if a0_0=a1_0 then(if a0_1=a1_1 then((aX.f k l0_2 l1_2).bind fun t103=> (some t103))else(some false))else(some false)
theorem cT.mono: ∀ a0 a1 a2 a3 a4 a5 k,LeO (cT.f k a0 a1 a2 a3 a4 a5) (cT.f (k+1) a0 a1 a2 a3 a4 a5):=by
  intro a0 a1 a2 a3 a4 a5 k
  unfold cT.f
  repeat' (with_reducible first|exact aX.mono _ _ _|exact LeO.refl _|exact LeO.none _|refine LeO.ite ?_ ?_|refine LeO.bind ?_ (fun _=>?_))
theorem cT.calls (k:Nat) (a0_0:Int) (a0_1:Int) (A0_2:Option Addr) (c0_2:Nat) (l0_2:List (S71)) (a1_0:Int) (a1_1:Int) (A1_2:Option Addr) (c1_2:Nat) (l1_2:List (S71)) (r:Bool) (w:World) (hr0_2:Kd.C k71 w A0_2 l0_2.length l0_2) (hc0_2:l0_2.length≤c0_2) (hr1_2:Kd.C k71 w A1_2 l1_2.length l1_2) (hc1_2:l1_2.length≤c1_2) (h:cT.f k a0_0 a0_1 l0_2 a1_0 a1_1 l1_2=some r):
  Calls Try.prog 95 #[.agg #[.int .i64 a0_0,.int .i64 a0_1,.slice A0_2 l0_2.length c0_2],.agg #[.int .i64 a1_0,.int .i64 a1_1,.slice A1_2 l1_2.length c1_2]] w fun e w'=>e= .returned (.bool r)∧Below w.heap.size w w':=by
 have hu99:=Try.underlying99
 have HR0_2:=zA hr0_2
 have HC0_2:=zA hc0_2
 clear hr0_2 hc0_2
 have HR1_2:=zA hr1_2
 have HC1_2:=zA hc1_2
 clear hr1_2 hc1_2
 have HB:=zA (Below.refl w.heap.size w)
 have H:(if a0_0=a1_0 then(if a0_1=a1_1 then((aX.f k l0_2 l1_2).bind fun t103=> (some t103))else(some false))else(some false))=some r:=h
 clear h
 by_cases c3:a0_0=a1_0
 ·rw[if_pos c3] at H
  have c3b0:(a0_0==a1_0)=true:=beq_iff_eq.mpr c3;have c3b1:(a0_0 != a1_0)=false:=bne_eq_false_iff_eq.mpr c3;clear c3;by_cases c4:a0_1=a1_1
  ·rw[if_pos c4] at H
   have c4b0:(a0_1==a1_1)=true:=beq_iff_eq.mpr c4;have c4b1:(a0_1 != a1_1)=false:=bne_eq_false_iff_eq.mpr c4;clear c4;obtain⟨t103,A5,H⟩:=qD_ H;(try dsimp only at H);obtain rfl:=zKq H;go_enter Try.func95,Try.ntmps95;go_wp2_with (first|((with_reducible refine gate_dst (N:=2) rfl ?_);refine box_event qr (N:=2) qr (cs:= #[.int .i64 a0_0,.int .i64 a0_1,.slice A0_2 l0_2.length c0_2]) (t:=99) qg ?_;intro gb101 hg w6 hbox hb;have BK101:=zA (hbox);have GW101:=zA ((qS:w.heap.size≤gb101));have GE101:=zA ((qS:w.heap.size≤gb101));replace HB:=zA (zV qB hb);clear hb hbox hg)|((with_reducible refine gate_dst (N:=3) rfl ?_);refine box_event qr (N:=3) qr (cs:= #[.int .i64 a1_0,.int .i64 a1_1,.slice A1_2 l1_2.length c1_2]) (t:=99) qg ?_;intro gb102 hg w7 hbox hb;have BK102:=zA (hbox);have GW102:=zA ((qS:w.heap.size≤gb102));have GE102:=zA ((qS:w.heap.size≤gb102));replace HB:=zA (zV qB hb);have NB101_102:=zA ((by rw[hg];exact zLq (qL BK101.out):gb101≠gb102));have NB102_101:=zA ((by rw[hg];exact zMq (qL BK101.out):gb102≠gb101));replace BK101:=zA (qX BK101.out hb);clear hb hbox hg;have hnb8:=NB101_102.out;have hnc8:=NB102_101.out;obtain⟨_,_,_,_,_,_⟩:=qc3f BK101.out;obtain⟨_,_,_,_,_,_⟩:=qc3f BK102.out)|(go_at_call 133;(with_reducible refine(aX.calls k _ _ l0_2 _ _ l1_2 t103 _ ?side1 ?side2 ?side3 ?side4 A5.out).mono ?_);(case side1=>exact qC (Kd.C_below HR0_2.out HB.out));(case side2=>exact HC0_2.out);(case side3=>exact qC (Kd.C_below HR1_2.out HB.out));(case side4=>exact HC1_2.out);rintro e w11 ⟨rfl,hb⟩;replace BK101:=zA (qX BK101.out hb);replace BK102:=zA (qX BK102.out hb);replace HB:=zA (zV qB hb);(try clear hb)));go_ret;exact⟨qE,qB⟩
  rw[if_neg c4] at H;have c4b0:(a0_1==a1_1)=false:=beq_eq_false_iff_ne.mpr c4;have c4b1:(a0_1 != a1_1)=true:=bne_iff_ne.mpr c4;obtain rfl:=zKq H;go_enter Try.func95,Try.ntmps95;go_wp2_with (first|((with_reducible refine gate_dst (N:=2) rfl ?_);refine box_event qr (N:=2) qr (cs:= #[.int .i64 a0_0,.int .i64 a0_1,.slice A0_2 l0_2.length c0_2]) (t:=99) qg ?_;intro gb101 hg w12 hbox hb;have BK101:=zA (hbox);have GW101:=zA ((qS:w.heap.size≤gb101));have GE101:=zA ((qS:w.heap.size≤gb101));replace HB:=zA (zV qB hb);clear hb hbox hg)|((with_reducible refine gate_dst (N:=3) rfl ?_);refine box_event qr (N:=3) qr (cs:= #[.int .i64 a1_0,.int .i64 a1_1,.slice A1_2 l1_2.length c1_2]) (t:=99) qg ?_;intro gb102 hg w13 hbox hb;have BK102:=zA (hbox);have GW102:=zA ((qS:w.heap.size≤gb102));have GE102:=zA ((qS:w.heap.size≤gb102));replace HB:=zA (zV qB hb);have NB101_102:=zA ((by rw[hg];exact zLq (qL BK101.out):gb101≠gb102));have NB102_101:=zA ((by rw[hg];exact zMq (qL BK101.out):gb102≠gb101));replace BK101:=zA (qX BK101.out hb);clear hb hbox hg;have hnb14:=NB101_102.out;have hnc14:=NB102_101.out;obtain⟨_,_,_,_,_,_⟩:=qc3f BK101.out;obtain⟨_,_,_,_,_,_⟩:=qc3f BK102.out));go_ret;exact⟨qE,qB⟩
 rw[if_neg c3] at H
 have c3b0:(a0_0==a1_0)=false:=beq_eq_false_iff_ne.mpr c3
 have c3b1:(a0_0 != a1_0)=true:=bne_iff_ne.mpr c3
 obtain rfl:=zKq H
 go_enter Try.func95,Try.ntmps95
 go_wp2_with (first|((with_reducible refine gate_dst (N:=2) rfl ?_);refine box_event qr (N:=2) qr (cs:= #[.int .i64 a0_0,.int .i64 a0_1,.slice A0_2 l0_2.length c0_2]) (t:=99) qg ?_;intro gb101 hg w17 hbox hb;have BK101:=zA (hbox);have GW101:=zA ((qS:w.heap.size≤gb101));have GE101:=zA ((qS:w.heap.size≤gb101));replace HB:=zA (zV qB hb);clear hb hbox hg)|((with_reducible refine gate_dst (N:=3) rfl ?_);refine box_event qr (N:=3) qr (cs:= #[.int .i64 a1_0,.int .i64 a1_1,.slice A1_2 l1_2.length c1_2]) (t:=99) qg ?_;intro gb102 hg w18 hbox hb;have BK102:=zA (hbox);have GW102:=zA ((qS:w.heap.size≤gb102));have GE102:=zA ((qS:w.heap.size≤gb102));replace HB:=zA (zV qB hb);have NB101_102:=zA ((by rw[hg];exact zLq (qL BK101.out):gb101≠gb102));have NB102_101:=zA ((by rw[hg];exact zMq (qL BK101.out):gb102≠gb101));replace BK101:=zA (qX BK101.out hb);clear hb hbox hg;have hnb19:=NB101_102.out;have hnc19:=NB102_101.out;obtain⟨_,_,_,_,_,_⟩:=qc3f BK101.out;obtain⟨_,_,_,_,_,_⟩:=qc3f BK102.out))
 go_ret
 exact⟨qE,qB⟩
end Go.Proofs.Ytefhljhpcpajgaa.F
