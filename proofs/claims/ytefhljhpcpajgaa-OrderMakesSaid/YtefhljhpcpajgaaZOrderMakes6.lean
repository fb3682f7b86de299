-- by prune.py (own program),out of the print
import Derived.Test.YtefhljhpcpajgaaProg
import Derived.Below
import Derived.Deep.Draws
import Derived.Deep.AppendLies
import Derived.Maps.AppendAt
import Derived.OwnWalk
import Derived.Laws.BytesArg
import Derived.Laws.MakeOwn
import Derived.Laws.OwnMore
import Derived.Deep.OwnRows
import Derived.Tactics
import Derived.Lib.ConvBytes
import Derived.Laws.Slices
import Derived.WalkKit
import Derived.KernelRfl
import Derived.RowKit3
import Derived.Deep.LoopGhost
import Derived.Deep.QuietTactic
import Derived.BigQuiet
import Derived.WideLaws
import Derived.Deep.DeepCutAuto
import Derived.Deep.CutBlock
import Derived.Deep.RegionHeld3
import Derived.Laws.Rows
import Derived.Lib.AppendStr
import Derived.ArgAppend
import Derived.Laws.IdiomCopy
import Derived.OrdersHeld
import Derived.Laws.BitsLemmas
import Derived.RowKit
import Derived.Laws.StructEq
import Derived.Deep.RegionLawGrows
import Derived.Lib.SliceRun
import Derived.Maps.Own
import Derived.Maps.OwnOps
import Derived.Maps.Views
import Derived.StringKeys
import Derived.Carry
import Derived.Lib.OthersKept
import Derived.Lib.RuneCount
import Derived.Laws.Cover4
import Derived.Outline
import Derived.Shelf.Small.Bits
import Derived.Shelf.Utf8.RuneCount
import Derived.Shelf.Strconv.Itoa0
import Derived.Shelf.Strings.Prefix
import Derived.Shelf.Strings.RuneCount
import Derived.Shelf.Bits.Mul64
import Derived.Ground.Names2Prog
import Derived.Shelf.Slices.SearchI
import Derived.Ground.SlsfProg
import Derived.Shelf.SlSortCmp.Insertion
import Derived.Shelf.SlSortCmp.Insertion1
import Derived.Sort.LotA
import Derived.Sort.OwnSortedInts
import Derived.WalkMore
import Derived.Test.YtefhljhpcpajgaaZOrderMakes5
set_option maxHeartbeats 8000000
set_option maxRecDepth 100000
namespace Go.Proofs.Ytefhljhpcpajgaa.F
open Go.RowKit Go.Proofs.YtefhljhpcpajgaaX Go.Proofs.YtefhljhpcpajgaaW.PrintWords Go.Proofs.YtefhljhpcpajgaaW.PrintLast Go.Proofs.YtefhljhpcpajgaaW.PrintMore
attribute [local go_sem] max2_int min2_int max_two min_two max_three min_three max_four min_four
attribute [local go_sem high] str_geq str_leq str_gtr
set_option linter.unusedVariables false
set_option linter.unusedSimpArgs false
def cF.f:Option (Bool):=some true
theorem cF.calls (r:Bool) (w:World) (h:cF.f=some r):
  Calls Try.prog 82 #[] w fun e w'=>e= .returned (.bool r)∧Below w.heap.size w w':=by
 obtain rfl:r=true:=by injection h with h;exact h.symm
 have hu99:=Try.underlying99
 have HB:=zA (Below.refl w.heap.size w)
 have H:((cO.f (⟨#[66]⟩:ByteArray)).bind fun t101=> ((bS.f 1000 5 9 t101 10 29).bind fun bt104=> ((cO.f (⟨#[65]⟩:ByteArray)).bind fun t111=> ((bS.f 1000 5 9 t111 10 29).bind fun bt114=> ((cO.f (⟨#[66]⟩:ByteArray)).bind fun t121=> ((bS.f 1000 0 9 t121 10 29).bind fun bt124=> ((cE.f 1000 bt104.1 bt104.2.1 bt104.2.2.1 (⟨#[67]⟩:ByteArray)).bind fun bt131=> ((cE.f 1000 bt104.1 bt104.2.1 bt104.2.2.1 (⟨#[68]⟩:ByteArray)).bind fun bt134=> ((dA.f 1000 bt104.1 bt104.2.1 bt104.2.2.1).bind fun bt137=> (if bt104.2.2.2=0 then(if bt114.2.2.2=32 then(if bt124.2.2.2=2 then(if bt131.1=1 then(if bt131.2.1=1 then(if bt131.2.2=true then(if bt134.2.2=true then(some false)else(if bt137.1=319 then(if bt137.2=0 then((bX.f 1000 bt104.1 bt104.2.1 bt104.2.2.1).bind fun t139=> ((aV.f 1000 t139 (([(⟨#[65]⟩:ByteArray),(⟨#[66]⟩:ByteArray),(⟨#[67]⟩:ByteArray)] :List ByteArray))).bind fun t145=> (if t145=true then((aT.f 1000 bt104.1 bt104.2.1 bt104.2.2.1).bind fun t146=> (if t146=0 then((cT.f 1000 bt104.1 bt104.2.1 bt104.2.2.1 bt104.1 bt104.2.1 bt104.2.2.1).bind fun t147=> (if t147=true then((aT.f 1000 0 0 ([] :List (S71))).bind fun t148=> (if t148=40 then(some true)else(some false)))else(some false)))else(some false)))else(some false))))else(some false))else(some false)))else(some false))else(some false))else(some false))else(some false))else(some false))else(some false)))))))))))=some true:=by decide+kernel
 obtain⟨t101,A1,H⟩:=qD_ H
 (try dsimp only at H)
 obtain⟨⟨t104,t105,t106,t109⟩,A2,H⟩:=qD_ H
 (try dsimp only at H)
 obtain⟨t111,A3,H⟩:=qD_ H
 (try dsimp only at H)
 obtain⟨⟨t114,t115,t116,t119⟩,A4,H⟩:=qD_ H
 (try dsimp only at H)
 obtain⟨t121,A5,H⟩:=qD_ H
 (try dsimp only at H)
 obtain⟨⟨t124,t125,t126,t129⟩,A6,H⟩:=qD_ H
 (try dsimp only at H)
 obtain⟨⟨t131,t132,t133⟩,A7,H⟩:=qD_ H
 (try dsimp only at H)
 obtain⟨⟨t134,t135,t136⟩,A8,H⟩:=qD_ H
 (try dsimp only at H)
 obtain⟨⟨t137,t138⟩,A9,H⟩:=qD_ H
 (try dsimp only at H)
 by_cases c10:t109=0
 ·rw[if_pos c10] at H
  have c10b0:(t109==0)=true:=beq_iff_eq.mpr c10;have c10b1:(t109 != 0)=false:=bne_eq_false_iff_eq.mpr c10;clear c10;by_cases c11:t119=32
  ·rw[if_pos c11] at H
   have c11b0:(t119==32)=true:=beq_iff_eq.mpr c11;have c11b1:(t119 != 32)=false:=bne_eq_false_iff_eq.mpr c11;clear c11;by_cases c12:t129=2
   ·rw[if_pos c12] at H
    have c12b0:(t129==2)=true:=beq_iff_eq.mpr c12;have c12b1:(t129 != 2)=false:=bne_eq_false_iff_eq.mpr c12;clear c12;by_cases c13:t131=1
    ·rw[if_pos c13] at H
     have c13b0:(t131==1)=true:=beq_iff_eq.mpr c13;have c13b1:(t131 != 1)=false:=bne_eq_false_iff_eq.mpr c13;clear c13;by_cases c14:t132=1
     ·rw[if_pos c14] at H
      have c14b0:(t132==1)=true:=beq_iff_eq.mpr c14;have c14b1:(t132 != 1)=false:=bne_eq_false_iff_eq.mpr c14;clear c14;by_cases c15:t133=true
      ·subst c15
       have H1:(if t136=true then(some false)else(if t137=319 then(if t138=0 then((bX.f 1000 t104 t105 t106).bind fun t139=> ((aV.f 1000 t139 (([(⟨#[65]⟩:ByteArray),(⟨#[66]⟩:ByteArray),(⟨#[67]⟩:ByteArray)] :List ByteArray))).bind fun t145=> (if t145=true then((aT.f 1000 t104 t105 t106).bind fun t146=> (if t146=0 then((cT.f 1000 t104 t105 t106 t104 t105 t106).bind fun t147=> (if t147=true then((aT.f 1000 0 0 ([] :List (S71))).bind fun t148=> (if t148=40 then(some true)else(some false)))else(some false)))else(some false)))else(some false))))else(some false))else(some false)))=some true:=by first|(rw[if_pos rfl] at H;exact H)|rfl
       clear H;have H:=H1;clear H1;by_cases c16:t136=true
       ·subst c16
        have H1:(some false)=some true:=by first|(rw[if_pos rfl] at H;exact H)|rfl
        clear H;have H:=H1;clear H1;exact absurd H (by simp)
       replace c16:=Bool.eq_false_iff.mpr c16;subst c16;have H1:(if t137=319 then(if t138=0 then((bX.f 1000 t104 t105 t106).bind fun t139=> ((aV.f 1000 t139 (([(⟨#[65]⟩:ByteArray),(⟨#[66]⟩:ByteArray),(⟨#[67]⟩:ByteArray)] :List ByteArray))).bind fun t145=> (if t145=true then((aT.f 1000 t104 t105 t106).bind fun t146=> (if t146=0 then((cT.f 1000 t104 t105 t106 t104 t105 t106).bind fun t147=> (if t147=true then((aT.f 1000 0 0 ([] :List (S71))).bind fun t148=> (if t148=40 then(some true)else(some false)))else(some false)))else(some false)))else(some false))))else(some false))else(some false))=some true:=by first|(rw[if_neg (show ¬ (false=true) by decide)] at H;exact H)|rfl
       clear H;have H:=H1;clear H1;by_cases c17:t137=319
       ·rw[if_pos c17] at H
        have c17b0:(t137==319)=true:=beq_iff_eq.mpr c17;have c17b1:(t137 != 319)=false:=bne_eq_false_iff_eq.mpr c17;clear c17;by_cases c18:t138=0
        ·rw[if_pos c18] at H
         have c18b0:(t138==0)=true:=beq_iff_eq.mpr c18;have c18b1:(t138 != 0)=false:=bne_eq_false_iff_eq.mpr c18;clear c18;obtain⟨t139,A19,H⟩:=qD_ H;(try dsimp only at H);obtain⟨y142,hy142⟩: ∃ y_:List ByteArray,y_=(([(⟨#[65]⟩:ByteArray),(⟨#[66]⟩:ByteArray),(⟨#[67]⟩:ByteArray)] :List ByteArray)):=⟨_,rfl⟩
         replace H:((aV.f 1000 t139 y142).bind fun t145=> (if t145=true then((aT.f 1000 t104 t105 t106).bind fun t146=> (if t146=0 then((cT.f 1000 t104 t105 t106 t104 t105 t106).bind fun t147=> (if t147=true then((aT.f 1000 0 0 ([] :List (S71))).bind fun t148=> (if t148=40 then(some true)else(some false)))else(some false)))else(some false)))else(some false)))=some true:=by first|(rw[hy142];with_reducible exact H)|(have H2_:=(Option.bind_some _ _).symm.trans H;rw[hy142];with_reducible exact H2_)|(have H2_:=(Option.bind_some _ _).symm.trans H;with_reducible exact H2_)|with_reducible exact H|(rw[hy142];exact H)|exact H
         have Ny142:=zA hy142;clear hy142;obtain⟨t145,A20,H⟩:=qD_ H;(try dsimp only at H);by_cases c21:t145=true
         ·subst c21
          have H1:((aT.f 1000 t104 t105 t106).bind fun t146=> (if t146=0 then((cT.f 1000 t104 t105 t106 t104 t105 t106).bind fun t147=> (if t147=true then((aT.f 1000 0 0 ([] :List (S71))).bind fun t148=> (if t148=40 then(some true)else(some false)))else(some false)))else(some false)))=some true:=by first|(rw[if_pos rfl] at H;exact H)|rfl
          clear H;have H:=H1;clear H1;obtain⟨t146,A22,H⟩:=qD_ H;(try dsimp only at H);by_cases c23:t146=0
          ·rw[if_pos c23] at H
           have c23b0:(t146==0)=true:=beq_iff_eq.mpr c23;have c23b1:(t146 != 0)=false:=bne_eq_false_iff_eq.mpr c23;clear c23;obtain⟨t147,A24,H⟩:=qD_ H;(try dsimp only at H);by_cases c25:t147=true
           ·subst c25
            have H1:((aT.f 1000 0 0 ([] :List (S71))).bind fun t148=> (if t148=40 then(some true)else(some false)))=some true:=by first|(rw[if_pos rfl] at H;exact H)|rfl
            clear H;have H:=H1;clear H1;obtain⟨t148,A26,H⟩:=qD_ H;(try dsimp only at H);by_cases c27:t148=40
            ·rw[if_pos c27] at H
             have c27b0:(t148==40)=true:=beq_iff_eq.mpr c27;have c27b1:(t148 != 40)=false:=bne_eq_false_iff_eq.mpr c27;clear c27;clear H;go_enter Try.func82,Try.ntmps82;go_wp2_with (first|((with_reducible refine zJq (f:=124) rfl ?_);refine goesL_ (some 16) rfl rfl Try.func124 (by kernel_rfl) rfl #[.string (⟨#[66]⟩:ByteArray)] rfl qG ?_;(with_reducible refine(cO.calls (⟨#[66]⟩:ByteArray) t101 _ A1.out).mono ?_);rintro e w28 ⟨v102,rfl,ho0,hb⟩;refine⟨_,rfl,?_⟩;have HO103:=zA (Kd.N_lower (Kd.N_mono (ok':=fun k_=>True) ho0 (fun k_ hk_=>trivial)) (zW qB));replace HB:=zA (zV qB hb);(try clear hb);(try clear ho0);obtain⟨Ao29,co29,eo29⟩:=Kd.N_slice HO103.out;subst eo29)|((with_reducible refine zJq (f:=83) rfl ?_);refine goesL_ (some 17) rfl rfl Try.func83 (by kernel_rfl) rfl #[.int .i64 5,.int .i64 9,.slice Ao29 t101.length co29,.int .i64 10,.int .i64 29] rfl qG ?_;(with_reducible refine(bS.calls 1000 5 9 (fun k_=>True) _ _ t101 10 29 t104 t105 t106 t109 _ ?side1 A2.out).mono ?_);(case side1=>exact Kd.N_V (HO103.out));rintro e w30 ⟨v107,rfl,ho0,hb⟩;refine⟨_,rfl,?_⟩;replace HO103:=zA (Kd.N_elder' (qN_ HO103.out) (Kd.N_base ho0) hb);have HO108:=zA (Kd.N_lower (Kd.N_mono (ok':=fun k_=>True) ho0 (fun k_ hk_=>trivial)) (zW qB));replace HB:=zA (zV qB hb);(try clear hb);(try clear ho0))|((with_reducible refine gate_dst (N:=1) rfl ?_);(try(refine gate_guard (by rfl) ?_;dsimp only));refine box_event qr (N:=1) qr (cs:= #[.int .i64 0,.int .i64 0,.slice none 0 0]) (t:=99) qg ?_;intro gb110 hg w31 hbox hb;replace HO103:=zA (Kd.N_below (Kd.N_elderB (qN_ HO103.out) gb110 (Nat.le_of_eq hg.symm)) hb);replace HO108:=zA (Kd.N_below (Kd.N_elderB (qN_ HO108.out) gb110 (Nat.le_of_eq hg.symm)) hb);have BK110:=zA (hbox);have GW110:=zA ((qS:w.heap.size≤gb110));have GE110:=zA ((qS:w.heap.size≤gb110));replace HB:=zA (zV qB hb);clear hb hbox hg;obtain⟨_,_,_,_,_,_⟩:=qc3f BK110.out;obtain⟨Ao33,co33,eo33⟩:=Kd.N_slice HO108.out;subst eo33)|((with_reducible refine zJq (f:=124) rfl ?_);refine goesL_ (some 21) rfl rfl Try.func124 (by kernel_rfl) rfl #[.string (⟨#[65]⟩:ByteArray)] rfl qG ?_;(with_reducible refine(cO.calls (⟨#[65]⟩:ByteArray) t111 _ A3.out).mono ?_);rintro e w34 ⟨v112,rfl,ho0,hb⟩;refine⟨_,rfl,?_⟩;have HO113:=zA (Kd.N_lower (Kd.N_mono (ok':=fun k_=>some k_≠(.slice Ao29 t101.length co29:Value).ownBlock∧some k_≠(.slice Ao33 t106.length co33:Value).ownBlock∧k_≠gb110) ho0 (fun k_ hk_=> ⟨(Kd.fresh' (Kd.N_lt (by(with_reducible repeat(first|apply Kd.N_alloc|apply Kd.N_drewN|apply Kd.N_drew));exact(Kd.N_mono (Kd.N_far (p:=⟨gb110,2,none⟩) (Kd.N_far (p:=⟨gb110,1,none⟩) (Kd.N_far (p:=⟨gb110,0,none⟩) (Kd.N_mono HO103.out (fun k_ hk=> (⟨hk,hk.2⟩:_∧k_≠gb110))) (fun _ hk=>hk.2) (.int .i64 t104)) (fun _ hk=>hk.2) (.int .i64 t105)) (fun _ hk=>hk.2) (.slice Ao33 t106.length co33)) (fun _ h_=>h_.1)))) k_ hk_),(Kd.fresh' (Kd.N_lt (by(with_reducible repeat(first|apply Kd.N_alloc|apply Kd.N_drewN|apply Kd.N_drew));exact(Kd.N_mono (Kd.N_far (p:=⟨gb110,2,none⟩) (Kd.N_far (p:=⟨gb110,1,none⟩) (Kd.N_far (p:=⟨gb110,0,none⟩) (Kd.N_mono HO108.out (fun k_ hk=> (⟨hk,hk.2⟩:_∧k_≠gb110))) (fun _ hk=>hk.2) (.int .i64 t104)) (fun _ hk=>hk.2) (.int .i64 t105)) (fun _ hk=>hk.2) (.slice Ao33 t106.length co33)) (fun _ h_=>h_.1)))) k_ hk_),(Kd.freshB (g:=gb110) (o:= .cells #[.int .i64 t104,.int .i64 t105,.slice Ao33 t106.length co33] 99 (0,0)) (qV BK110.out) k_ hk_)⟩)) (zW qB));replace HO103:=zA (Kd.N_elder' (by(with_reducible repeat(first|apply Kd.N_alloc|apply Kd.N_drewN|apply Kd.N_drew));exact(Kd.N_mono (Kd.N_far (p:=⟨gb110,2,none⟩) (Kd.N_far (p:=⟨gb110,1,none⟩) (Kd.N_far (p:=⟨gb110,0,none⟩) (Kd.N_mono HO103.out (fun k_ hk=> (⟨hk,hk.2⟩:_∧k_≠gb110))) (fun _ hk=>hk.2) (.int .i64 t104)) (fun _ hk=>hk.2) (.int .i64 t105)) (fun _ hk=>hk.2) (.slice Ao33 t106.length co33)) (fun _ h_=>h_.1))) (Kd.N_base ho0) hb);replace HO108:=zA (Kd.N_elder' (by(with_reducible repeat(first|apply Kd.N_alloc|apply Kd.N_drewN|apply Kd.N_drew));exact(Kd.N_mono (Kd.N_far (p:=⟨gb110,2,none⟩) (Kd.N_far (p:=⟨gb110,1,none⟩) (Kd.N_far (p:=⟨gb110,0,none⟩) (Kd.N_mono HO108.out (fun k_ hk=> (⟨hk,hk.2⟩:_∧k_≠gb110))) (fun _ hk=>hk.2) (.int .i64 t104)) (fun _ hk=>hk.2) (.int .i64 t105)) (fun _ hk=>hk.2) (.slice Ao33 t106.length co33)) (fun _ h_=>h_.1))) (Kd.N_base ho0) hb);replace BK110:=zA (zX (g:=gb110) (o:= .cells #[.int .i64 t104,.int .i64 t105,.slice Ao33 t106.length co33] 99 (0,0)) (qV BK110.out) hb);replace HB:=zA (zV qB hb);(try clear hb);(try clear ho0);obtain⟨Ao35,co35,eo35⟩:=Kd.N_slice HO113.out;subst eo35)|((with_reducible refine zJq (f:=83) rfl ?_);refine goesL_ (some 22) rfl rfl Try.func83 (by kernel_rfl) rfl #[.int .i64 5,.int .i64 9,.slice Ao35 t111.length co35,.int .i64 10,.int .i64 29] rfl qG ?_;(with_reducible refine(bS.calls 1000 5 9 (fun k_=> (some k_≠(.slice Ao29 t101.length co29:Value).ownBlock∧(some k_≠(.slice Ao33 t106.length co33:Value).ownBlock∧k_≠gb110))) _ _ t111 10 29 t114 t115 t116 t119 _ ?side1 A4.out).mono ?_);(case side1=>exact Kd.N_V (HO113.out));rintro e w36 ⟨v117,rfl,ho0,hb⟩;refine⟨_,rfl,?_⟩;replace HO113:=zA (Kd.N_elder' (qN_ HO113.out) (Kd.N_base ho0) hb);have HO118:=zA (Kd.N_lower (Kd.N_mono (ok':=fun k_=>some k_≠(.slice Ao29 t101.length co29:Value).ownBlock∧some k_≠(.slice Ao33 t106.length co33:Value).ownBlock∧k_≠gb110) ho0 (fun k_ hk_=> ⟨Or.elim hk_ (fun hs_=>hs_.1) (fun hn_=> (Kd.fresh' (Kd.N_lt (qN_ HO103.out)) k_ hn_)),Or.elim hk_ (fun hs_=>hs_.2.1) (fun hn_=> (Kd.fresh' (Kd.N_lt (qN_ HO108.out)) k_ hn_)),Or.elim hk_ (fun hs_=>hs_.2.2) (fun hn_=> (Kd.freshB (g:=gb110) (o:= .cells #[.int .i64 t104,.int .i64 t105,.slice Ao33 t106.length co33] 99 (0,0)) (qW BK110.out) k_ hn_))⟩)) (zW qB));replace HO103:=zA (Kd.N_elder' (qN_ HO103.out) (Kd.N_base ho0) hb);replace HO108:=zA (Kd.N_elder' (qN_ HO108.out) (Kd.N_base ho0) hb);replace BK110:=zA (qX BK110.out hb);replace HB:=zA (zV qB hb);(try clear hb);(try clear ho0))|((with_reducible refine gate_dst (N:=3) rfl ?_);(try(refine gate_guard (by rfl) ?_;dsimp only));refine box_event qr (N:=3) qr (cs:= #[.int .i64 0,.int .i64 0,.slice none 0 0]) (t:=99) qg ?_;intro gb120 hg w37 hbox hb;replace HO103:=zA (Kd.N_below (Kd.N_elderB (qN_ HO103.out) gb120 (Nat.le_of_eq hg.symm)) hb);replace HO108:=zA (Kd.N_below (Kd.N_elderB (qN_ HO108.out) gb120 (Nat.le_of_eq hg.symm)) hb);replace HO113:=zA (Kd.N_below (Kd.N_elderB (qN_ HO113.out) gb120 (Nat.le_of_eq hg.symm)) hb);replace HO118:=zA (Kd.N_below (Kd.N_elderB (qN_ HO118.out) gb120 (Nat.le_of_eq hg.symm)) hb);have BK120:=zA (hbox);have GW120:=zA ((qS:w.heap.size≤gb120));have GE120:=zA ((qS:w.heap.size≤gb120));replace HB:=zA (zV qB hb);have NB110_120:=zA ((by rw[hg];exact zLq (qL BK110.out):gb110≠gb120));have NB120_110:=zA ((by rw[hg];exact zMq (qL BK110.out):gb120≠gb110));replace BK110:=zA (qX BK110.out hb);clear hb hbox hg;have hnb38:=NB120_110.out;have hnc38:=NB110_120.out;obtain⟨_,_,_,_,_,_⟩:=qc3f BK120.out;obtain⟨Ao40,co40,eo40⟩:=Kd.N_slice HO118.out;subst eo40)|((with_reducible refine zJq (f:=124) rfl ?_);refine goesL_ (some 26) rfl rfl Try.func124 (by kernel_rfl) rfl #[.string (⟨#[66]⟩:ByteArray)] rfl qG ?_;(with_reducible refine(cO.calls (⟨#[66]⟩:ByteArray) t121 _ A5.out).mono ?_);rintro e w41 ⟨v122,rfl,ho0,hb⟩;refine⟨_,rfl,?_⟩;have HO123:=zA (Kd.N_lower (Kd.N_mono (ok':=fun k_=>some k_≠(.slice Ao29 t101.length co29:Value).ownBlock∧some k_≠(.slice Ao33 t106.length co33:Value).ownBlock∧some k_≠(.slice Ao35 t111.length co35:Value).ownBlock∧some k_≠(.slice Ao40 t116.length co40:Value).ownBlock∧k_≠gb110∧k_≠gb120) ho0 (fun k_ hk_=> ⟨(Kd.fresh' (Kd.N_lt (by(with_reducible repeat(first|apply Kd.N_alloc|apply Kd.N_drewN|apply Kd.N_drew));exact(Kd.N_mono (Kd.N_far (p:=⟨gb120,2,none⟩) (Kd.N_far (p:=⟨gb120,1,none⟩) (Kd.N_far (p:=⟨gb120,0,none⟩) (Kd.N_mono HO103.out (fun k_ hk=> (⟨hk,hk.2⟩:_∧k_≠gb120))) (fun _ hk=>hk.2) (.int .i64 t114)) (fun _ hk=>hk.2) (.int .i64 t115)) (fun _ hk=>hk.2) (.slice Ao40 t116.length co40)) (fun _ h_=>h_.1)))) k_ hk_),(Kd.fresh' (Kd.N_lt (by(with_reducible repeat(first|apply Kd.N_alloc|apply Kd.N_drewN|apply Kd.N_drew));exact(Kd.N_mono (Kd.N_far (p:=⟨gb120,2,none⟩) (Kd.N_far (p:=⟨gb120,1,none⟩) (Kd.N_far (p:=⟨gb120,0,none⟩) (Kd.N_mono HO108.out (fun k_ hk=> (⟨hk,hk.2⟩:_∧k_≠gb120))) (fun _ hk=>hk.2) (.int .i64 t114)) (fun _ hk=>hk.2) (.int .i64 t115)) (fun _ hk=>hk.2) (.slice Ao40 t116.length co40)) (fun _ h_=>h_.1)))) k_ hk_),(Kd.fresh' (Kd.N_lt (by(with_reducible repeat(first|apply Kd.N_alloc|apply Kd.N_drewN|apply Kd.N_drew));exact(Kd.N_mono (Kd.N_far (p:=⟨gb120,2,none⟩) (Kd.N_far (p:=⟨gb120,1,none⟩) (Kd.N_far (p:=⟨gb120,0,none⟩) (Kd.N_mono HO113.out (fun k_ hk=> (⟨hk,hk.2⟩:_∧k_≠gb120))) (fun _ hk=>hk.2) (.int .i64 t114)) (fun _ hk=>hk.2) (.int .i64 t115)) (fun _ hk=>hk.2) (.slice Ao40 t116.length co40)) (fun _ h_=>h_.1)))) k_ hk_),(Kd.fresh' (Kd.N_lt (by(with_reducible repeat(first|apply Kd.N_alloc|apply Kd.N_drewN|apply Kd.N_drew));exact(Kd.N_mono (Kd.N_far (p:=⟨gb120,2,none⟩) (Kd.N_far (p:=⟨gb120,1,none⟩) (Kd.N_far (p:=⟨gb120,0,none⟩) (Kd.N_mono HO118.out (fun k_ hk=> (⟨hk,hk.2⟩:_∧k_≠gb120))) (fun _ hk=>hk.2) (.int .i64 t114)) (fun _ hk=>hk.2) (.int .i64 t115)) (fun _ hk=>hk.2) (.slice Ao40 t116.length co40)) (fun _ h_=>h_.1)))) k_ hk_),(Kd.freshB (g:=gb110) (o:= .cells #[.int .i64 t104,.int .i64 t105,.slice Ao33 t106.length co33] 99 (0,0)) (qW BK110.out) k_ hk_),(Kd.freshB (g:=gb120) (o:= .cells #[.int .i64 t114,.int .i64 t115,.slice Ao40 t116.length co40] 99 (0,0)) (qV BK120.out) k_ hk_)⟩)) (zW qB));replace HO103:=zA (Kd.N_elder' (by(with_reducible repeat(first|apply Kd.N_alloc|apply Kd.N_drewN|apply Kd.N_drew));exact(Kd.N_mono (Kd.N_far (p:=⟨gb120,2,none⟩) (Kd.N_far (p:=⟨gb120,1,none⟩) (Kd.N_far (p:=⟨gb120,0,none⟩) (Kd.N_mono HO103.out (fun k_ hk=> (⟨hk,hk.2⟩:_∧k_≠gb120))) (fun _ hk=>hk.2) (.int .i64 t114)) (fun _ hk=>hk.2) (.int .i64 t115)) (fun _ hk=>hk.2) (.slice Ao40 t116.length co40)) (fun _ h_=>h_.1))) (Kd.N_base ho0) hb);replace HO108:=zA (Kd.N_elder' (by(with_reducible repeat(first|apply Kd.N_alloc|apply Kd.N_drewN|apply Kd.N_drew));exact(Kd.N_mono (Kd.N_far (p:=⟨gb120,2,none⟩) (Kd.N_far (p:=⟨gb120,1,none⟩) (Kd.N_far (p:=⟨gb120,0,none⟩) (Kd.N_mono HO108.out (fun k_ hk=> (⟨hk,hk.2⟩:_∧k_≠gb120))) (fun _ hk=>hk.2) (.int .i64 t114)) (fun _ hk=>hk.2) (.int .i64 t115)) (fun _ hk=>hk.2) (.slice Ao40 t116.length co40)) (fun _ h_=>h_.1))) (Kd.N_base ho0) hb);replace HO113:=zA (Kd.N_elder' (by(with_reducible repeat(first|apply Kd.N_alloc|apply Kd.N_drewN|apply Kd.N_drew));exact(Kd.N_mono (Kd.N_far (p:=⟨gb120,2,none⟩) (Kd.N_far (p:=⟨gb120,1,none⟩) (Kd.N_far (p:=⟨gb120,0,none⟩) (Kd.N_mono HO113.out (fun k_ hk=> (⟨hk,hk.2⟩:_∧k_≠gb120))) (fun _ hk=>hk.2) (.int .i64 t114)) (fun _ hk=>hk.2) (.int .i64 t115)) (fun _ hk=>hk.2) (.slice Ao40 t116.length co40)) (fun _ h_=>h_.1))) (Kd.N_base ho0) hb);replace HO118:=zA (Kd.N_elder' (by(with_reducible repeat(first|apply Kd.N_alloc|apply Kd.N_drewN|apply Kd.N_drew));exact(Kd.N_mono (Kd.N_far (p:=⟨gb120,2,none⟩) (Kd.N_far (p:=⟨gb120,1,none⟩) (Kd.N_far (p:=⟨gb120,0,none⟩) (Kd.N_mono HO118.out (fun k_ hk=> (⟨hk,hk.2⟩:_∧k_≠gb120))) (fun _ hk=>hk.2) (.int .i64 t114)) (fun _ hk=>hk.2) (.int .i64 t115)) (fun _ hk=>hk.2) (.slice Ao40 t116.length co40)) (fun _ h_=>h_.1))) (Kd.N_base ho0) hb);replace BK110:=zA (qX BK110.out hb);replace BK120:=zA (zX (g:=gb120) (o:= .cells #[.int .i64 t114,.int .i64 t115,.slice Ao40 t116.length co40] 99 (0,0)) (qV BK120.out) hb);replace HB:=zA (zV qB hb);(try clear hb);(try clear ho0);obtain⟨Ao42,co42,eo42⟩:=Kd.N_slice HO123.out;subst eo42)|((with_reducible refine zJq (f:=83) rfl ?_);refine goesL_ (some 27) rfl rfl Try.func83 (by kernel_rfl) rfl #[.int .i64 0,.int .i64 9,.slice Ao42 t121.length co42,.int .i64 10,.int .i64 29] rfl qG ?_;(with_reducible refine(bS.calls 1000 0 9 (fun k_=> (some k_≠(.slice Ao29 t101.length co29:Value).ownBlock∧(some k_≠(.slice Ao33 t106.length co33:Value).ownBlock∧(some k_≠(.slice Ao35 t111.length co35:Value).ownBlock∧(some k_≠(.slice Ao40 t116.length co40:Value).ownBlock∧(k_≠gb110∧k_≠gb120)))))) _ _ t121 10 29 t124 t125 t126 t129 _ ?side1 A6.out).mono ?_);(case side1=>exact Kd.N_V (HO123.out));rintro e w43 ⟨v127,rfl,ho0,hb⟩;refine⟨_,rfl,?_⟩;replace HO123:=zA (Kd.N_elder' (qN_ HO123.out) (Kd.N_base ho0) hb);have HO128:=zA (Kd.N_lower (Kd.N_mono (ok':=fun k_=>some k_≠(.slice Ao29 t101.length co29:Value).ownBlock∧some k_≠(.slice Ao33 t106.length co33:Value).ownBlock∧some k_≠(.slice Ao35 t111.length co35:Value).ownBlock∧some k_≠(.slice Ao40 t116.length co40:Value).ownBlock∧k_≠gb110∧k_≠gb120) ho0 (fun k_ hk_=> ⟨Or.elim hk_ (fun hs_=>hs_.1) (fun hn_=> (Kd.fresh' (Kd.N_lt (qN_ HO103.out)) k_ hn_)),Or.elim hk_ (fun hs_=>hs_.2.1) (fun hn_=> (Kd.fresh' (Kd.N_lt (qN_ HO108.out)) k_ hn_)),Or.elim hk_ (fun hs_=>hs_.2.2.1) (fun hn_=> (Kd.fresh' (Kd.N_lt (qN_ HO113.out)) k_ hn_)),Or.elim hk_ (fun hs_=>hs_.2.2.2.1) (fun hn_=> (Kd.fresh' (Kd.N_lt (qN_ HO118.out)) k_ hn_)),Or.elim hk_ (fun hs_=>hs_.2.2.2.2.1) (fun hn_=> (Kd.freshB (g:=gb110) (o:= .cells #[.int .i64 t104,.int .i64 t105,.slice Ao33 t106.length co33] 99 (0,0)) (qW BK110.out) k_ hn_)),Or.elim hk_ (fun hs_=>hs_.2.2.2.2.2) (fun hn_=> (Kd.freshB (g:=gb120) (o:= .cells #[.int .i64 t114,.int .i64 t115,.slice Ao40 t116.length co40] 99 (0,0)) (qW BK120.out) k_ hn_))⟩)) (zW qB));replace HO103:=zA (Kd.N_elder' (qN_ HO103.out) (Kd.N_base ho0) hb);replace HO108:=zA (Kd.N_elder' (qN_ HO108.out) (Kd.N_base ho0) hb);replace HO113:=zA (Kd.N_elder' (qN_ HO113.out) (Kd.N_base ho0) hb);replace HO118:=zA (Kd.N_elder' (qN_ HO118.out) (Kd.N_base ho0) hb);replace BK110:=zA (qX BK110.out hb);replace BK120:=zA (qX BK120.out hb);replace HB:=zA (zV qB hb);(try clear hb);(try clear ho0))|((with_reducible refine gate_dst (N:=5) rfl ?_);(try(refine gate_guard (by rfl) ?_;dsimp only));refine box_event qr (N:=5) qr (cs:= #[.int .i64 0,.int .i64 0,.slice none 0 0]) (t:=99) qg ?_;intro gb130 hg w44 hbox hb;replace HO103:=zA (Kd.N_below (Kd.N_elderB (qN_ HO103.out) gb130 (Nat.le_of_eq hg.symm)) hb);replace HO108:=zA (Kd.N_below (Kd.N_elderB (qN_ HO108.out) gb130 (Nat.le_of_eq hg.symm)) hb);replace HO113:=zA (Kd.N_below (Kd.N_elderB (qN_ HO113.out) gb130 (Nat.le_of_eq hg.symm)) hb);replace HO118:=zA (Kd.N_below (Kd.N_elderB (qN_ HO118.out) gb130 (Nat.le_of_eq hg.symm)) hb);replace HO123:=zA (Kd.N_below (Kd.N_elderB (qN_ HO123.out) gb130 (Nat.le_of_eq hg.symm)) hb);replace HO128:=zA (Kd.N_below (Kd.N_elderB (qN_ HO128.out) gb130 (Nat.le_of_eq hg.symm)) hb);have BK130:=zA (hbox);have GW130:=zA ((qS:w.heap.size≤gb130));have GE130:=zA ((qS:w.heap.size≤gb130));replace HB:=zA (zV qB hb);have NB110_130:=zA ((by rw[hg];exact zLq (qL BK110.out):gb110≠gb130));have NB130_110:=zA ((by rw[hg];exact zMq (qL BK110.out):gb130≠gb110));replace BK110:=zA (qX BK110.out hb);have NB120_130:=zA ((by rw[hg];exact zLq (qL BK120.out):gb120≠gb130));have NB130_120:=zA ((by rw[hg];exact zMq (qL BK120.out):gb130≠gb120));replace BK120:=zA (qX BK120.out hb);clear hb hbox hg;have hnb45:=NB130_110.out;have hnc45:=NB110_130.out;have hnb46:=NB130_120.out;have hnc46:=NB120_130.out;obtain⟨_,_,_,_,_,_⟩:=qc3f BK130.out;obtain⟨Ao48,co48,eo48⟩:=Kd.N_slice HO128.out;subst eo48;obtain⟨_,_,_,_,_,_⟩:=qc3f BK110.out)|((with_reducible refine zJq (f:=86) rfl ?_);refine goesL_ (some 32) rfl rfl Try.func86 (by kernel_rfl) rfl #[.agg #[.int .i64 t104,.int .i64 t105,.slice Ao33 t106.length co33],.string (⟨#[67]⟩:ByteArray)] rfl qG ?_;(with_reducible refine(cE.calls 1000 t104 t105 _ _ t106 (⟨#[67]⟩:ByteArray) t131 t132 true _ ?side1 ?side2 A7.out).mono ?_);(case side1=>refine(Kd.N_reads' (e:=71) (base:=w.heap.size) (ok:=fun k_=> (((((((True∧k_≠gb110)∧some k_≠(.slice Ao35 t111.length co35:Value).ownBlock)∧some k_≠(.slice Ao40 t116.length co40:Value).ownBlock)∧k_≠gb120)∧some k_≠(.slice Ao42 t121.length co42:Value).ownBlock)∧some k_≠(.slice Ao48 t126.length co48:Value).ownBlock)∧k_≠gb130)) (n:=t106.length) (c:=co33) ?_).2.2;exact(by(with_reducible repeat(first|apply Kd.N_alloc|apply Kd.N_drewN|apply Kd.N_drew));exact(Kd.N_mono (Kd.N_far (p:=⟨gb130,2,none⟩) (Kd.N_far (p:=⟨gb130,1,none⟩) (Kd.N_far (p:=⟨gb130,0,none⟩) (Kd.N_mono HO108.out (fun k_ hk=> (⟨hk,hk.2⟩:_∧k_≠gb130))) (fun _ hk=>hk.2) (.int .i64 t124)) (fun _ hk=>hk.2) (.int .i64 t125)) (fun _ hk=>hk.2) (.slice Ao48 t126.length co48)) (fun _ h_=>h_.1))));(case side2=>exact(Kd.N_reads' HO108.out).2.1);rintro e w50 ⟨rfl,hb⟩;refine⟨_,rfl,?_⟩;replace HO103:=zA (Kd.N_below (by(with_reducible repeat(first|apply Kd.N_alloc|apply Kd.N_drewN|apply Kd.N_drew));exact(Kd.N_mono (Kd.N_far (p:=⟨gb130,2,none⟩) (Kd.N_far (p:=⟨gb130,1,none⟩) (Kd.N_far (p:=⟨gb130,0,none⟩) (Kd.N_mono HO103.out (fun k_ hk=> (⟨hk,hk.2⟩:_∧k_≠gb130))) (fun _ hk=>hk.2) (.int .i64 t124)) (fun _ hk=>hk.2) (.int .i64 t125)) (fun _ hk=>hk.2) (.slice Ao48 t126.length co48)) (fun _ h_=>h_.1))) hb);replace HO108:=zA (Kd.N_below (by(with_reducible repeat(first|apply Kd.N_alloc|apply Kd.N_drewN|apply Kd.N_drew));exact(Kd.N_mono (Kd.N_far (p:=⟨gb130,2,none⟩) (Kd.N_far (p:=⟨gb130,1,none⟩) (Kd.N_far (p:=⟨gb130,0,none⟩) (Kd.N_mono HO108.out (fun k_ hk=> (⟨hk,hk.2⟩:_∧k_≠gb130))) (fun _ hk=>hk.2) (.int .i64 t124)) (fun _ hk=>hk.2) (.int .i64 t125)) (fun _ hk=>hk.2) (.slice Ao48 t126.length co48)) (fun _ h_=>h_.1))) hb);replace HO113:=zA (Kd.N_below (by(with_reducible repeat(first|apply Kd.N_alloc|apply Kd.N_drewN|apply Kd.N_drew));exact(Kd.N_mono (Kd.N_far (p:=⟨gb130,2,none⟩) (Kd.N_far (p:=⟨gb130,1,none⟩) (Kd.N_far (p:=⟨gb130,0,none⟩) (Kd.N_mono HO113.out (fun k_ hk=> (⟨hk,hk.2⟩:_∧k_≠gb130))) (fun _ hk=>hk.2) (.int .i64 t124)) (fun _ hk=>hk.2) (.int .i64 t125)) (fun _ hk=>hk.2) (.slice Ao48 t126.length co48)) (fun _ h_=>h_.1))) hb);replace HO118:=zA (Kd.N_below (by(with_reducible repeat(first|apply Kd.N_alloc|apply Kd.N_drewN|apply Kd.N_drew));exact(Kd.N_mono (Kd.N_far (p:=⟨gb130,2,none⟩) (Kd.N_far (p:=⟨gb130,1,none⟩) (Kd.N_far (p:=⟨gb130,0,none⟩) (Kd.N_mono HO118.out (fun k_ hk=> (⟨hk,hk.2⟩:_∧k_≠gb130))) (fun _ hk=>hk.2) (.int .i64 t124)) (fun _ hk=>hk.2) (.int .i64 t125)) (fun _ hk=>hk.2) (.slice Ao48 t126.length co48)) (fun _ h_=>h_.1))) hb);replace HO123:=zA (Kd.N_below (by(with_reducible repeat(first|apply Kd.N_alloc|apply Kd.N_drewN|apply Kd.N_drew));exact(Kd.N_mono (Kd.N_far (p:=⟨gb130,2,none⟩) (Kd.N_far (p:=⟨gb130,1,none⟩) (Kd.N_far (p:=⟨gb130,0,none⟩) (Kd.N_mono HO123.out (fun k_ hk=> (⟨hk,hk.2⟩:_∧k_≠gb130))) (fun _ hk=>hk.2) (.int .i64 t124)) (fun _ hk=>hk.2) (.int .i64 t125)) (fun _ hk=>hk.2) (.slice Ao48 t126.length co48)) (fun _ h_=>h_.1))) hb);replace HO128:=zA (Kd.N_below (by(with_reducible repeat(first|apply Kd.N_alloc|apply Kd.N_drewN|apply Kd.N_drew));exact(Kd.N_mono (Kd.N_far (p:=⟨gb130,2,none⟩) (Kd.N_far (p:=⟨gb130,1,none⟩) (Kd.N_far (p:=⟨gb130,0,none⟩) (Kd.N_mono HO128.out (fun k_ hk=> (⟨hk,hk.2⟩:_∧k_≠gb130))) (fun _ hk=>hk.2) (.int .i64 t124)) (fun _ hk=>hk.2) (.int .i64 t125)) (fun _ hk=>hk.2) (.slice Ao48 t126.length co48)) (fun _ h_=>h_.1))) hb);replace BK110:=zA (qX BK110.out hb);replace BK120:=zA (qX BK120.out hb);replace BK130:=zA (zX (g:=gb130) (o:= .cells #[.int .i64 t124,.int .i64 t125,.slice Ao48 t126.length co48] 99 (0,0)) (qV BK130.out) hb);replace HB:=zA (zV qB hb);(try clear hb);obtain⟨_,_,_,_,_,_⟩:=qc3f BK110.out)|((with_reducible refine zJq (f:=86) rfl ?_);refine goesL_ (some 38) rfl rfl Try.func86 (by kernel_rfl) rfl #[.agg #[.int .i64 t104,.int .i64 t105,.slice Ao33 t106.length co33],.string (⟨#[68]⟩:ByteArray)] rfl qG ?_;(with_reducible refine(cE.calls 1000 t104 t105 _ _ t106 (⟨#[68]⟩:ByteArray) t134 t135 false _ ?side1 ?side2 A8.out).mono ?_);(case side1=>repeat(first|exact(Kd.N_reads' HO108.out).2.2|(with_reducible refine Kd.C_alloc ?_ _)|(with_reducible refine Kd.C_drewN ?_ _)|(with_reducible refine Kd.C_drew ?_)));(case side2=>exact(Kd.N_reads' HO108.out).2.1);rintro e w52 ⟨rfl,hb⟩;refine⟨_,rfl,?_⟩;replace HO103:=zA (Kd.N_below (qN_ HO103.out) hb);replace HO108:=zA (Kd.N_below (qN_ HO108.out) hb);replace HO113:=zA (Kd.N_below (qN_ HO113.out) hb);replace HO118:=zA (Kd.N_below (qN_ HO118.out) hb);replace HO123:=zA (Kd.N_below (qN_ HO123.out) hb);replace HO128:=zA (Kd.N_below (qN_ HO128.out) hb);replace BK110:=zA (qX BK110.out hb);replace BK120:=zA (qX BK120.out hb);replace BK130:=zA (qX BK130.out hb);replace HB:=zA (zV qB hb);(try clear hb);obtain⟨_,_,_,_,_,_⟩:=qc3f BK110.out)|((with_reducible refine zJq (f:=88) rfl ?_);refine goesL_ (some 44) rfl rfl Try.func88 (by kernel_rfl) rfl #[.agg #[.int .i64 t104,.int .i64 t105,.slice Ao33 t106.length co33]] rfl qG ?_;(with_reducible refine(dA.calls 1000 t104 t105 _ _ t106 t137 t138 _ ?side1 ?side2 A9.out).mono ?_);(case side1=>repeat(first|exact(Kd.N_reads' HO108.out).2.2|(with_reducible refine Kd.C_alloc ?_ _)|(with_reducible refine Kd.C_drewN ?_ _)|(with_reducible refine Kd.C_drew ?_)));(case side2=>exact(Kd.N_reads' HO108.out).2.1);rintro e w54 ⟨rfl,hb⟩;refine⟨_,rfl,?_⟩;replace HO103:=zA (Kd.N_below (qN_ HO103.out) hb);replace HO108:=zA (Kd.N_below (qN_ HO108.out) hb);replace HO113:=zA (Kd.N_below (qN_ HO113.out) hb);replace HO118:=zA (Kd.N_below (qN_ HO118.out) hb);replace HO123:=zA (Kd.N_below (qN_ HO123.out) hb);replace HO128:=zA (Kd.N_below (qN_ HO128.out) hb);replace BK110:=zA (qX BK110.out hb);replace BK120:=zA (qX BK120.out hb);replace BK130:=zA (qX BK130.out hb);replace HB:=zA (zV qB hb);(try clear hb);obtain⟨_,_,_,_,_,_⟩:=qc3f BK110.out)|(go_at_call 93;(with_reducible refine(bX.calls 1000 t104 t105 _ _ t106 t139 _ ?side1 ?side2 A19.out).mono ?_);(case side1=>repeat(first|exact(Kd.N_reads' HO108.out).2.2|(with_reducible refine Kd.C_alloc ?_ _)|(with_reducible refine Kd.C_drewN ?_ _)|(with_reducible refine Kd.C_drew ?_)));(case side2=>exact(Kd.N_reads' HO108.out).2.1);rintro e w56 ⟨v140,rfl,ho0,hb⟩;replace HO103:=zA (Kd.N_elder' (qN_ HO103.out) (Kd.R_base ho0) hb);replace HO108:=zA (Kd.N_elder' (qN_ HO108.out) (Kd.R_base ho0) hb);replace HO113:=zA (Kd.N_elder' (qN_ HO113.out) (Kd.R_base ho0) hb);replace HO118:=zA (Kd.N_elder' (qN_ HO118.out) (Kd.R_base ho0) hb);replace HO123:=zA (Kd.N_elder' (qN_ HO123.out) (Kd.R_base ho0) hb);replace HO128:=zA (Kd.N_elder' (qN_ HO128.out) (Kd.R_base ho0) hb);have HO141:=zA (Kd.R_lower ho0 (zW qB));replace BK110:=zA (qX BK110.out hb);replace BK120:=zA (qX BK120.out hb);replace BK130:=zA (qX BK130.out hb);replace HB:=zA (zV qB hb);(try clear hb);(try clear ho0))|((with_reducible refine gate_dst (N:=83) rfl ?_);(try(refine gate_guard (by rfl) ?_;dsimp only));refine Kd.R_lit Kd.string _ 9 ?hg (N:=83) ?hd (xs:=([(⟨#[65]⟩:ByteArray),(⟨#[66]⟩:ByteArray),(⟨#[67]⟩:ByteArray)] :List ByteArray)) (inner:=[.string (⟨#[65]⟩:ByteArray),.string (⟨#[66]⟩:ByteArray),.string (⟨#[67]⟩:ByteArray)]) (ok:=fun _=>True) (okp:=fun _=>True) ?hr ?hp (fun _ hk=>hk) trivial (Below.refl _ _) (Nat.le_refl _) (by simp) ?_;(case hd=>rfl);(case hg=>rfl);(case hr=>first|(go_simp;done)|(go_simp;rfl));(case hp=>exact(Reps.one (show Kd.M Kd.string _ _ _ (⟨#[65]⟩:ByteArray) [.string (⟨#[65]⟩:ByteArray)] from rfl) (Reps.one (show Kd.M Kd.string _ _ _ (⟨#[66]⟩:ByteArray) [.string (⟨#[66]⟩:ByteArray)] from rfl) (Reps.one (show Kd.M Kd.string _ _ _ (⟨#[67]⟩:ByteArray) [.string (⟨#[67]⟩:ByteArray)] from rfl) (Reps.none _ _)))));intro v143 w57 ho58 hb hg_ hnew_;clear hg_ hnew_;(first|rw[←Ny142.out] at ho58|(simp only[Int.reduceToNat] at ho58;rw[←Ny142.out] at ho58));replace HO103:=zA (Kd.N_elder' (qN_ HO103.out) (Kd.R_base ho58) hb);replace HO108:=zA (Kd.N_elder' (qN_ HO108.out) (Kd.R_base ho58) hb);replace HO113:=zA (Kd.N_elder' (qN_ HO113.out) (Kd.R_base ho58) hb);replace HO118:=zA (Kd.N_elder' (qN_ HO118.out) (Kd.R_base ho58) hb);replace HO123:=zA (Kd.N_elder' (qN_ HO123.out) (Kd.R_base ho58) hb);replace HO128:=zA (Kd.N_elder' (qN_ HO128.out) (Kd.R_base ho58) hb);have HO144:=zA (Kd.R_lower (Kd.R_new' ho58 (Kd.R_lt (qR_ HO141.out))) (zW qB));replace HO141:=zA (Kd.R_elder' (qR_ HO141.out) (Kd.R_base ho58) hb);replace BK110:=zA (qX BK110.out hb);replace BK120:=zA (qX BK120.out hb);replace BK130:=zA (qX BK130.out hb);replace HB:=zA (zV qB hb);clear hb ho58;obtain⟨Ao59,co59,eo59⟩:=Kd.R_slice HO141.out;subst eo59;obtain⟨Ao60,co60,eo60⟩:=Kd.R_slice HO144.out;subst eo60)|(go_at_call 92;(with_reducible refine(aV.calls 1000 _ _ t139 _ _ y142 true _ ?side1 ?side2 ?side3 ?side4 A20.out).mono ?_);(case side1=>repeat(first|exact(Kd.R_reads' HO141.out).2.2|(with_reducible refine Kd.C_alloc ?_ _)|(with_reducible refine Kd.C_drewN ?_ _)|(with_reducible refine Kd.C_drew ?_)));(case side2=>exact(Kd.R_reads' HO141.out).2.1);(case side3=>repeat(first|exact(Kd.R_reads' HO144.out).2.2|(with_reducible refine Kd.C_alloc ?_ _)|(with_reducible refine Kd.C_drewN ?_ _)|(with_reducible refine Kd.C_drew ?_)));(case side4=>exact(Kd.R_reads' HO144.out).2.1);rintro e w' ⟨rfl,⟨nd,rfl⟩⟩;obtain⟨_,_,_,_,_,_⟩:=qc3f BK110.out)|(go_at_call 90;(with_reducible refine(aT.calls 1000 t104 t105 _ _ t106 t146 _ ?side1 ?side2 A22.out).mono ?_);(case side1=>repeat(first|exact(Kd.N_reads' HO108.out).2.2|(with_reducible refine Kd.C_alloc ?_ _)|(with_reducible refine Kd.C_drewN ?_ _)|(with_reducible refine Kd.C_drew ?_)));(case side2=>exact(Kd.N_reads' HO108.out).2.1);rintro e w62 ⟨rfl,hb⟩;replace HO103:=zA (Kd.N_below (qN_ HO103.out) hb);replace HO108:=zA (Kd.N_below (qN_ HO108.out) hb);replace HO113:=zA (Kd.N_below (qN_ HO113.out) hb);replace HO118:=zA (Kd.N_below (qN_ HO118.out) hb);replace HO123:=zA (Kd.N_below (qN_ HO123.out) hb);replace HO128:=zA (Kd.N_below (qN_ HO128.out) hb);replace HO141:=zA (Kd.R_below (qR_ HO141.out) hb);replace HO144:=zA (Kd.R_below (qR_ HO144.out) hb);replace BK110:=zA (qX BK110.out hb);replace BK120:=zA (qX BK120.out hb);replace BK130:=zA (qX BK130.out hb);replace HB:=zA (zV qB hb);(try clear hb);obtain⟨_,_,_,_,_,_⟩:=qc3f BK110.out)|(go_at_call 95;(with_reducible refine(cT.calls 1000 t104 t105 _ _ t106 t104 t105 _ _ t106 true _ ?side1 ?side2 ?side3 ?side4 A24.out).mono ?_);(case side1=>repeat(first|exact(Kd.N_reads' HO108.out).2.2|(with_reducible refine Kd.C_alloc ?_ _)|(with_reducible refine Kd.C_drewN ?_ _)|(with_reducible refine Kd.C_drew ?_)));(case side2=>exact(Kd.N_reads' HO108.out).2.1);(case side3=>repeat(first|exact(Kd.N_reads' HO108.out).2.2|(with_reducible refine Kd.C_alloc ?_ _)|(with_reducible refine Kd.C_drewN ?_ _)|(with_reducible refine Kd.C_drew ?_)));(case side4=>exact(Kd.N_reads' HO108.out).2.1);rintro e w64 ⟨rfl,hb⟩;replace HO103:=zA (Kd.N_below (qN_ HO103.out) hb);replace HO108:=zA (Kd.N_below (qN_ HO108.out) hb);replace HO113:=zA (Kd.N_below (qN_ HO113.out) hb);replace HO118:=zA (Kd.N_below (qN_ HO118.out) hb);replace HO123:=zA (Kd.N_below (qN_ HO123.out) hb);replace HO128:=zA (Kd.N_below (qN_ HO128.out) hb);replace HO141:=zA (Kd.R_below (qR_ HO141.out) hb);replace HO144:=zA (Kd.R_below (qR_ HO144.out) hb);replace BK110:=zA (qX BK110.out hb);replace BK120:=zA (qX BK120.out hb);replace BK130:=zA (qX BK130.out hb);replace HB:=zA (zV qB hb);(try clear hb))|(go_at_call 90;(refine(aT.calls 1000 0 0 _ _ ([] :List (S71)) t148 _ ?side1 ?side2 A26.out).mono ?_);(case side1=>exact Kd.C_nil _ _);(case side2=>exact Nat.le_refl _);rintro e w65 ⟨rfl,hb⟩;replace HO103:=zA (Kd.N_below (qN_ HO103.out) hb);replace HO108:=zA (Kd.N_below (qN_ HO108.out) hb);replace HO113:=zA (Kd.N_below (qN_ HO113.out) hb);replace HO118:=zA (Kd.N_below (qN_ HO118.out) hb);replace HO123:=zA (Kd.N_below (qN_ HO123.out) hb);replace HO128:=zA (Kd.N_below (qN_ HO128.out) hb);replace HO141:=zA (Kd.R_below (qR_ HO141.out) hb);replace HO144:=zA (Kd.R_below (qR_ HO144.out) hb);replace BK110:=zA (qX BK110.out hb);replace BK120:=zA (qX BK120.out hb);replace BK130:=zA (qX BK130.out hb);replace HB:=zA (zV qB hb);(try clear hb)))
             go_ret;exact⟨qE,qB⟩
            rw[if_neg c27] at H;have c27b0:(t148==40)=false:=beq_eq_false_iff_ne.mpr c27;have c27b1:(t148 != 40)=true:=bne_iff_ne.mpr c27;exact absurd H (by simp)
           replace c25:=Bool.eq_false_iff.mpr c25;subst c25;have H1:(some false)=some true:=by first|(rw[if_neg (show ¬ (false=true) by decide)] at H;exact H)|rfl
           clear H;have H:=H1;clear H1;exact absurd H (by simp)
          rw[if_neg c23] at H;have c23b0:(t146==0)=false:=beq_eq_false_iff_ne.mpr c23;have c23b1:(t146 != 0)=true:=bne_iff_ne.mpr c23;exact absurd H (by simp)
         replace c21:=Bool.eq_false_iff.mpr c21;subst c21;have H1:(some false)=some true:=by first|(rw[if_neg (show ¬ (false=true) by decide)] at H;exact H)|rfl
         clear H;have H:=H1;clear H1;exact absurd H (by simp)
        rw[if_neg c18] at H;have c18b0:(t138==0)=false:=beq_eq_false_iff_ne.mpr c18;have c18b1:(t138 != 0)=true:=bne_iff_ne.mpr c18;exact absurd H (by simp)
       rw[if_neg c17] at H;have c17b0:(t137==319)=false:=beq_eq_false_iff_ne.mpr c17;have c17b1:(t137 != 319)=true:=bne_iff_ne.mpr c17;exact absurd H (by simp)
      replace c15:=Bool.eq_false_iff.mpr c15;subst c15;have H1:(some false)=some true:=by first|(rw[if_neg (show ¬ (false=true) by decide)] at H;exact H)|rfl
      clear H;have H:=H1;clear H1;exact absurd H (by simp)
     rw[if_neg c14] at H;have c14b0:(t132==1)=false:=beq_eq_false_iff_ne.mpr c14;have c14b1:(t132 != 1)=true:=bne_iff_ne.mpr c14;exact absurd H (by simp)
    rw[if_neg c13] at H;have c13b0:(t131==1)=false:=beq_eq_false_iff_ne.mpr c13;have c13b1:(t131 != 1)=true:=bne_iff_ne.mpr c13;exact absurd H (by simp)
   rw[if_neg c12] at H;have c12b0:(t129==2)=false:=beq_eq_false_iff_ne.mpr c12;have c12b1:(t129 != 2)=true:=bne_iff_ne.mpr c12;exact absurd H (by simp)
  rw[if_neg c11] at H;have c11b0:(t119==32)=false:=beq_eq_false_iff_ne.mpr c11;have c11b1:(t119 != 32)=true:=bne_iff_ne.mpr c11;exact absurd H (by simp)
 rw[if_neg c10] at H
 have c10b0:(t109==0)=false:=beq_eq_false_iff_ne.mpr c10
 have c10b1:(t109 != 0)=true:=bne_iff_ne.mpr c10
 exact absurd H (by simp)
mutual
def aK.l0:Nat→List ByteArray→Int→Option (Bool)
  |0,_,_=>none
  |k+1,x0,x3=>if x3 < (x0.length:Int)then(aK.l1 k x0 x3 0)else(some false)
def aK.l1:Nat→List ByteArray→Int→Int→Option (Bool)
  |0,_,_,_=>none
  |k+1,x0,x3,x4=>if x4 < x3 then(if 0≤x3 then(if x3 < (x0.length:Int)then(if 0≤x4 then(if x4 < (x0.length:Int)then(if(rdOf ByteArray.empty x0 x3).toList=(rdOf ByteArray.empty x0 x4).toList then(some true)else(aK.l1 k x0 x3 (wrap64 (x4+1))))else(none))else(none))else(none))else(none))else(aK.l0 k x0 (wrap64 (x3+1)))
end
def aK.f (k:Nat) (l0:List ByteArray):Option (Bool):=aK.l0 k l0 0
theorem aK.mono_l: ∀ k,(∀ y0 y1,LeO (aK.l0 k y0 y1) (aK.l0 (k+1) y0 y1))∧(∀ y0 y1 y2,LeO (aK.l1 k y0 y1 y2) (aK.l1 (k+1) y0 y1 y2))
  |0=> ⟨fun _ _ r h=>by simp[aK.l0] at h,fun _ _ _ r h=>by simp[aK.l1] at h⟩
  |k+1=>by
    obtain⟨ih0,ih1⟩:=aK.mono_l k
    refine⟨?_,?_⟩
    · intro y0 y1
      unfold aK.l0
      repeat' (with_reducible first|exact ih0 _ _|exact ih1 _ _ _|exact LeO.refl _|exact LeO.none _|refine LeO.ite ?_ ?_|refine LeO.bind ?_ (fun _=>?_))
    intro y0 y1 y2
    unfold aK.l1
    repeat' (with_reducible first|exact ih0 _ _|exact ih1 _ _ _|exact LeO.refl _|exact LeO.none _|refine LeO.ite ?_ ?_|refine LeO.bind ?_ (fun _=>?_))
theorem aK.mono: ∀ a0 k,LeO (aK.f k a0) (aK.f (k+1) a0):=by
  intro a0 k
  obtain⟨ih0,ih1⟩:=aK.mono_l k
  unfold aK.f
  repeat' (with_reducible first|exact ih0 _ _|exact ih1 _ _ _|exact LeO.refl _|exact LeO.none _|refine LeO.ite ?_ ?_|refine LeO.bind ?_ (fun _=>?_))
theorem aK.calls (k:Nat) (A0:Option Addr) (c0:Nat) (l0:List ByteArray) (r:Bool) (w:World) (hr0:Kd.C Kd.string w A0 l0.length l0) (hc0:l0.length≤c0) (h:aK.f k l0=some r):
  Calls Try.prog 128 #[.slice A0 l0.length c0] w fun e w'=>e= .returned (.bool r)∧Drawn0 w w':=by
 have HR0:=zA hr0
 have HC0:=zA hc0
 clear hr0 hc0
 have H:(aK.l0 k l0 0)=some r:=h
 clear h
 have H':=zA H
 clear H
 go_enter Try.func128,Try.ntmps128
 go_wp2
 repeat(go_quiet (fail);try go_wp2)
 go_loopg[3] k (fun kq v3 w'=> ∃ (x3_1:Int),v3= .int .i64 x3_1∧Aside0 (aK.l0 kq l0 x3_1=some r)∧Aside0 (kq≤k)∧Drawn0 w w')
 case atStart=>exact⟨(0),qF_,H',⟨Nat.le_refl _⟩,by repeat(first|exact Drawn0.refl _|apply Drawn0.step)⟩
 case round=>
  clear H';try clear c1
  obtain⟨x3_1,rfl,HA,HK1,⟨m1,rfl⟩⟩:=hrel;cases gk with
  |zero=>exact absurd HA.out (by simp[aK.l0])
  |succ k1=>
   have H:=HA.out;clear HA;simp only[aK.l0] at H;by_cases c2:x3_1 < (l0.length:Int)
   ·rw[if_pos c2] at H
    have c2b0:=zFq c2;clear c2;have H':=zA H;clear H;go_wp2;repeat(go_quiet (fail);try go_wp2)
    go_loopg[4] k1 (fun kq v4 w'=> ∃ (x4_2:Int),v4= .int .i64 x4_2∧Aside0 (aK.l1 kq l0 x3_1 x4_2=some r)∧Aside0 (kq≤k1)∧Drawn0 w w')
    case atStart=>exact⟨(0),qF_,H',⟨Nat.le_refl _⟩,by repeat(first|exact Drawn0.refl _|apply Drawn0.step)⟩
    case round=>
     clear H';try clear c1
     try clear c2
     try clear c2b0
     try clear p2
     obtain⟨x4_2,rfl,HA,HK2,⟨m2,rfl⟩⟩:=hrel;cases gk with
     |zero=>exact absurd HA.out (by simp[aK.l1])
     |succ k2=>
      have H:=HA.out;clear HA;simp only[aK.l1] at H;by_cases c3:x4_2 < x3_1
      ·rw[if_pos c3] at H
       have c3b0:=zFq c3;clear c3;by_cases c4:0≤x3_1
       ·rw[if_pos c4] at H
        have c4b0:=zFq c4;clear c4;by_cases c5:x3_1 < (l0.length:Int)
        ·rw[if_pos c5] at H
         have c5b0:=zFq c5;clear c5;by_cases c6:0≤x4_2
         ·rw[if_pos c6] at H
          have c6b0:=zFq c6;clear c6;by_cases c7:x4_2 < (l0.length:Int)
          ·rw[if_pos c7] at H
           have c7b0:=zFq c7;clear c7;by_cases c8:(rdOf ByteArray.empty l0 x3_1).toList=(rdOf ByteArray.empty l0 x4_2).toList
           ·rw[if_pos c8] at H
            have c8b0:((rdOf ByteArray.empty l0 x3_1).toList==(rdOf ByteArray.empty l0 x4_2).toList)=true:=beq_iff_eq.mpr c8;have c8b1:((rdOf ByteArray.empty l0 x3_1).toList !=(rdOf ByteArray.empty l0 x4_2).toList)=false:=bne_eq_false_iff_eq.mpr c8;clear c8;obtain rfl:=zKq H;have p101:0≤(x3_1:Int):=qO_;have q101:x3_1 < (l0.length:Int):=qO_;obtain⟨ad101,e101,hx101_0⟩:=Kd.at_string HR0.out x3_1 p101 q101;cases e101
            replace p101:=eq_true p101;replace q101:=eq_true q101;have p102:0≤(x4_2:Int):=qO_;have q102:x4_2 < (l0.length:Int):=qO_;obtain⟨ad102,e102,hx102_0⟩:=Kd.at_string HR0.out x4_2 p102 q102;obtain rfl:ad101=ad102:=(by injection e102)
            replace p102:=eq_true p102;replace q102:=eq_true q102;go_wp2;repeat(go_quiet (fail);try go_wp2)
            go_ret;exact⟨by first|rfl|(simp;done)|(simp[*];done),by repeat(first|exact Drawn0.refl _|apply Drawn0.step)⟩
           rw[if_neg c8] at H;have c8b0:((rdOf ByteArray.empty l0 x3_1).toList==(rdOf ByteArray.empty l0 x4_2).toList)=false:=beq_eq_false_iff_ne.mpr c8;have c8b1:((rdOf ByteArray.empty l0 x3_1).toList !=(rdOf ByteArray.empty l0 x4_2).toList)=true:=bne_iff_ne.mpr c8;have H':=zA H;clear H;have p101:0≤(x3_1:Int):=qO_;have q101:x3_1 < (l0.length:Int):=qO_;obtain⟨ad101,e101,hx101_0⟩:=Kd.at_string HR0.out x3_1 p101 q101;cases e101
           replace p101:=eq_true p101;replace q101:=eq_true q101;have p102:0≤(x4_2:Int):=qO_;have q102:x4_2 < (l0.length:Int):=qO_;obtain⟨ad102,e102,hx102_0⟩:=Kd.at_string HR0.out x4_2 p102 q102;obtain rfl:ad101=ad102:=(by injection e102)
           replace p102:=eq_true p102;replace q102:=eq_true q102;go_wp2;repeat(go_quiet (fail);try go_wp2)
           go_roundg k2
           case measure=>have:=HK1.out;have:=HK2.out;omega
           case rel=>exact⟨(wrap64 (x4_2+1)),qF_,H',⟨by have:=HK1.out;have:=HK2.out;omega⟩,by repeat(first|exact Drawn0.refl _|apply Drawn0.step)⟩
          rw[if_neg c7] at H;exact absurd H (by simp)
         rw[if_neg c6] at H;exact absurd H (by simp)
        rw[if_neg c5] at H;exact absurd H (by simp)
       rw[if_neg c4] at H;exact absurd H (by simp)
      rw[if_neg c3] at H;have c3b0:=zGq c3;clear c3;have H':=zA H;clear H;go_wp2;repeat(go_quiet (fail);try go_wp2)
      go_roundg k2
      case measure=>have:=HK1.out;have:=HK2.out;omega
      case rel=>exact⟨(wrap64 (x3_1+1)),qF_,H',⟨by have:=HK1.out;have:=HK2.out;omega⟩,by repeat(first|exact Drawn0.refl _|apply Drawn0.step)⟩
   rw[if_neg c2] at H;have c2b0:=zGq c2;clear c2;obtain rfl:=zKq H;go_wp2;repeat(go_quiet (fail);try go_wp2)
   go_ret;exact⟨by first|rfl|(simp;done)|(simp[*];done),by repeat(first|exact Drawn0.refl _|apply Drawn0.step)⟩
def aY.l0:Nat→List (S71)→List ByteArray→Int→Option (List ByteArray)
  |0,_,_,_=>none
  |k+1,x0,x3,x4=>if x4 < (x0.length:Int)then(if 0≤x4 then(if x3.length+((rd_T71 x0 x4).f4).length < 8796093022208 then(aY.l0 k x0 (x3++((rd_T71 x0 x4).f4)) (wrap64 (x4+1)))else(none))else(none))else(some x3)
def aY.f (k:Nat) (l0:List (S71)):Option (List ByteArray):=aY.l0 k l0 ([] :List ByteArray) 0
theorem aY.mono_l: ∀ k,(∀ y0 y1 y2,LeO (aY.l0 k y0 y1 y2) (aY.l0 (k+1) y0 y1 y2))
  |0=>fun _ _ _ r h=>by simp[aY.l0] at h
  |k+1=>by
    have ih0:=aY.mono_l k
    intro y0 y1 y2
    unfold aY.l0
    repeat' (with_reducible first|exact ih0 _ _ _|exact LeO.refl _|exact LeO.none _|refine LeO.ite ?_ ?_|refine LeO.bind ?_ (fun _=>?_))
theorem aY.mono: ∀ a0 k,LeO (aY.f k a0) (aY.f (k+1) a0):=by
  intro a0 k
  have ih0:=aY.mono_l k
  unfold aY.f
  repeat' (with_reducible first|exact ih0 _ _ _|exact LeO.refl _|exact LeO.none _|refine LeO.ite ?_ ?_|refine LeO.bind ?_ (fun _=>?_))
theorem aY.calls (k:Nat) (A0:Option Addr) (c0:Nat) (l0:List (S71)) (r:List ByteArray) (w:World) (hr0:Kd.C k71 w A0 l0.length l0) (hc0:l0.length≤c0) (h:aY.f k l0=some r):
  Calls Try.prog 129 #[.slice A0 l0.length c0] w fun e w'=> ∃ v0_:Value,e= .returned (v0_)∧Kd.R Kd.string 9 w' w.heap.size (fun _=>True) v0_ r∧Below w.heap.size w w':=by
 have HR0:=zA hr0
 have HC0:=zA hc0
 clear hr0 hc0
 have HB:=zA (Below.refl w.heap.size w)
 have H:(aY.l0 k l0 ([] :List ByteArray) 0)=some r:=h
 clear h
 have H':=zA H
 clear H
 go_enter Try.func129,Try.ntmps129
 go_wp2
 go_loopg[3,4] k (fun kq v3 v4 w'=> ∃ (x3_1:List ByteArray) (x4_1:Int),v4= .int .i64 x4_1∧Aside0 (aY.l0 kq l0 x3_1 x4_1=some r)∧Aside0 (kq≤k)∧Aside0 (Kd.R Kd.string 9 w' w.heap.size (fun _=>True) v3 x3_1)∧Aside0 (Below w.heap.size w w'))
 case atStart=>exact⟨(([] :List ByteArray)),(0),qF_,H',⟨Nat.le_refl _⟩,⟨qN⟩,⟨qB⟩⟩
 case round=>
  clear H';try clear c1
  obtain⟨x3_1,x4_1,rfl,HA,HK1,HO_3,HB⟩:=hrel;cases gk with
  |zero=>exact absurd HA.out (by simp[aY.l0])
  |succ k1=>
   have H:=HA.out;clear HA;simp only[aY.l0] at H;by_cases c2:x4_1 < (l0.length:Int)
   ·rw[if_pos c2] at H
    have c2b0:=zFq c2;clear c2;by_cases c3:0≤x4_1
    ·rw[if_pos c3] at H
     have c3b0:=zFq c3;clear c3;by_cases c4:x3_1.length+((rd_T71 l0 x4_1).f4).length < 8796093022208
     ·rw[if_pos c4] at H
      have LMc4:=zA c4;clear c4;obtain⟨y102,hy102⟩: ∃ y_:List ByteArray,y_=(x3_1++((rd_T71 l0 x4_1).f4)):=⟨_,rfl⟩
      replace H:(aY.l0 k1 l0 y102 (wrap64 (x4_1+1)))=some r:=by first|(rw[hy102];with_reducible exact H)|(have H2_:=(Option.bind_some _ _).symm.trans H;rw[hy102];with_reducible exact H2_)|(have H2_:=(Option.bind_some _ _).symm.trans H;with_reducible exact H2_)|with_reducible exact H|(rw[hy102];exact H)|exact H
      have Ny102:=zA hy102;clear hy102;have H':=zA H;clear H;have p101:0≤(x4_1:Int):=qO_;have q101:x4_1 < (l0.length:Int):=qO_;obtain⟨ad101,A101_4,c101_4,e101,hx101_0,hx101_1,hx101_2,hx101_3,hx101_4,hl101_4,hi101_4⟩:=at_T71 HR0.out x4_1 p101 q101;cases e101
      replace hx101_0:=qU_ hx101_0;replace hx101_1:=qU_ hx101_1;replace hx101_2:=qU_ hx101_2;replace hx101_3:=qU_ hx101_3;replace hx101_4:=qU_ hx101_4;have HR101_4:=zA hi101_4;have HC101_4:=zA hl101_4;clear hi101_4 hl101_4;replace p101:=eq_true p101;replace q101:=eq_true q101;go_wp2_with (first|((with_reducible refine gate_builtin (b:= .append) (xs:= #[.tmp 11,.tmp 16]) rfl ?_);at_builtin;refine Kd.R_append_rows Kd.string (w0:=w) w.heap.size rfl (.tmp 11) (.tmp 16) 69 9 (.string ⟨#[]⟩) 16 rfl Try.underlying69 info9 rfl (by decide) (by omega) u3 x3_1 ((rd_T71 l0 x4_1).f4) _ _ _ (fun _=>True) (fun _=>False) rfl rfl ?aO ?aR (fun _ _ h=>h) (fun _ h=>h.elim) ?aF ?aB ?aS ?aL ?_;(case aR=>exact qC (Kd.C_below HR101_4.out HB.out));(case aB=>exact qB);(case aF=>exact(fun _ _=>trivial));(case aO=>exact(qR_ HO_3.out));(case aS=>exact(zW qB));(case aL=>have:=LMc4.out;omega);intro v103 w5 ho hb hg hat;rw[←Ny102.out] at ho;replace HB:=zA (hb);have HO104:=zA (ho);clear HO_3 ho hb hg hat));go_roundg k1
      case measure=>have:=HK1.out;omega
      case rel=>exact⟨(y102),(wrap64 (x4_1+1)),qF_,H',⟨by have:=HK1.out;omega⟩,⟨qR_ HO104.out⟩,⟨qB⟩⟩
     rw[if_neg c4] at H;exact absurd H (by simp)
    rw[if_neg c3] at H;exact absurd H (by simp)
   rw[if_neg c2] at H;have c2b0:=zGq c2;clear c2;obtain rfl:=zKq H;go_wp2;go_ret;exact⟨_,qE,qR_ HO_3.out,qB⟩
mutual
def aH.l0:Nat→Int→Int→Int→Int→Int→Int→Option (Int × Int)
  |0,_,_,_,_,_,_=>none
  |k+1,x0,x1,x2,x8,x9,x10=>if x10≥0 then(if 0≤(IntKind.u64.wrap (x10))then(if(Int.tmod (shr .i64 x1 (IntKind.u64.wrap (x10))) 2)=1 then(if x2=0 then(none)else(aH.j1 k x0 x1 x2 (wrap64 ((wrap64 (2 * x8))+(wrap64 (Int.tdiv x0 x2)))) (wrap64 ((wrap64 (2 * x9))+(Int.tmod x0 x2))) x10))else(aH.j1 k x0 x1 x2 (wrap64 (2 * x8)) (wrap64 (2 * x9)) x10))else(none))else(some (x8,x9))
def aH.j1:Nat→Int→Int→Int→Int→Int→Int→Option (Int × Int)
  |0,_,_,_,_,_,_=>none
  |k+1,x0,x1,x2,x8,x9,x10=>aH.l1 k x0 x1 x2 x8 x9 x10
def aH.l1:Nat→Int→Int→Int→Int→Int→Int→Option (Int × Int)
  |0,_,_,_,_,_,_=>none
  |k+1,x0,x1,x2,x8,x9,x10=>if x9≥x2 then(aH.l1 k x0 x1 x2 (wrap64 (x8+1)) (wrap64 (x9 - x2)) x10)else(if x8 > 4000000000000 then(some ((-1),0))else(aH.l0 k x0 x1 x2 x8 x9 (wrap64 (x10 - 1))))
end
def aH.f (k:Nat) (a0:Int) (a1:Int) (a2:Int):Option (Int × Int):=aH.l0 k a0 a1 a2 0 0 40
theorem aH.mono_l: ∀ k,(∀ y0 y1 y2 y3 y4 y5,LeO (aH.l0 k y0 y1 y2 y3 y4 y5) (aH.l0 (k+1) y0 y1 y2 y3 y4 y5))∧(∀ y0 y1 y2 y3 y4 y5,LeO (aH.j1 k y0 y1 y2 y3 y4 y5) (aH.j1 (k+1) y0 y1 y2 y3 y4 y5))∧(∀ y0 y1 y2 y3 y4 y5,LeO (aH.l1 k y0 y1 y2 y3 y4 y5) (aH.l1 (k+1) y0 y1 y2 y3 y4 y5))
  |0=> ⟨fun _ _ _ _ _ _ r h=>by simp[aH.l0] at h,fun _ _ _ _ _ _ r h=>by simp[aH.j1] at h,fun _ _ _ _ _ _ r h=>by simp[aH.l1] at h⟩
  |k+1=>by
    obtain⟨ih0,ih1,ih2⟩:=aH.mono_l k
    refine⟨?_,?_,?_⟩
    · intro y0 y1 y2 y3 y4 y5
      unfold aH.l0
      repeat' (with_reducible first|exact ih0 _ _ _ _ _ _|exact ih1 _ _ _ _ _ _|exact ih2 _ _ _ _ _ _|exact LeO.refl _|exact LeO.none _|refine LeO.ite ?_ ?_|refine LeO.bind ?_ (fun _=>?_))
    · intro y0 y1 y2 y3 y4 y5
      unfold aH.j1
      repeat' (with_reducible first|exact ih0 _ _ _ _ _ _|exact ih1 _ _ _ _ _ _|exact ih2 _ _ _ _ _ _|exact LeO.refl _|exact LeO.none _|refine LeO.ite ?_ ?_|refine LeO.bind ?_ (fun _=>?_))
    intro y0 y1 y2 y3 y4 y5
    unfold aH.l1
    repeat' (with_reducible first|exact ih0 _ _ _ _ _ _|exact ih1 _ _ _ _ _ _|exact ih2 _ _ _ _ _ _|exact LeO.refl _|exact LeO.none _|refine LeO.ite ?_ ?_|refine LeO.bind ?_ (fun _=>?_))
theorem aH.mono: ∀ a0 a1 a2 k,LeO (aH.f k a0 a1 a2) (aH.f (k+1) a0 a1 a2):=by
  intro a0 a1 a2 k
  obtain⟨ih0,ih1,ih2⟩:=aH.mono_l k
  unfold aH.f
  repeat' (with_reducible first|exact ih0 _ _ _ _ _ _|exact ih1 _ _ _ _ _ _|exact ih2 _ _ _ _ _ _|exact LeO.refl _|exact LeO.none _|refine LeO.ite ?_ ?_|refine LeO.bind ?_ (fun _=>?_))
theorem aH.calls (k:Nat) (a0:Int) (a1:Int) (a2:Int) (r1:Int) (r2:Int) (w:World) (h:aH.f k a0 a1 a2=some (r1,r2)):
  Calls Try.prog 102 #[.int .i64 a0,.int .i64 a1,.int .i64 a2] w fun e w'=>e= .returned (.tuple #[.int .i64 r1,.int .i64 r2])∧Drawn0 w w':=by
 have H:(aH.l0 k a0 a1 a2 0 0 40)=some (r1,r2):=h
 clear h
 have H':=zA H
 clear H
 go_enter Try.func102,Try.ntmps102
 go_wp2
 go_loopg[8,9,10] k (fun kq v8 v9 v10 w'=> ∃ (x8_1:Int) (x9_1:Int) (x10_1:Int),v8= .int .i64 x8_1∧v9= .int .i64 x9_1∧v10= .int .i64 x10_1∧Aside0 (aH.l0 kq a0 a1 a2 x8_1 x9_1 x10_1=some (r1,r2))∧Aside0 (kq≤k)∧Drawn0 w w')
 case atStart=>exact⟨(0),(0),(40),qF_,qF_,qF_,H',⟨Nat.le_refl _⟩,by repeat(first|exact Drawn0.refl _|apply Drawn0.step)⟩
 case round=>
  clear H';try clear c1
  try clear p2
  obtain⟨x8_1,x9_1,x10_1,rfl,rfl,rfl,HA,HK1,⟨m1,rfl⟩⟩:=hrel;cases gk with
  |zero=>exact absurd HA.out (by simp[aH.l0])
  |succ k1=>
   have H:=HA.out;clear HA;simp only[aH.l0] at H;by_cases c4:x10_1≥0
   ·rw[if_pos c4] at H
    have c4b0:decide (0≤x10_1)=true:=zFq c4;clear c4;obtain⟨ji5,hji5⟩: ∃ j_:Int,(IntKind.u64.wrap (x10_1))=j_:=⟨_,rfl⟩
    replace H:(if 0≤(ji5)then(if(Int.tmod (shr .i64 a1 (ji5)) 2)=1 then(if a2=0 then(none)else(aH.j1 k1 a0 a1 a2 (wrap64 ((wrap64 (2 * x8_1))+(wrap64 (Int.tdiv a0 a2)))) (wrap64 ((wrap64 (2 * x9_1))+(Int.tmod a0 a2))) x10_1))else(aH.j1 k1 a0 a1 a2 (wrap64 (2 * x8_1)) (wrap64 (2 * x9_1)) x10_1))else(none))=some (r1,r2):=by first|(rw[hji5] at H;exact H)|(simp only[hji5] at H⊢;exact H)
    by_cases c6:0≤(ji5)
    ·rw[if_pos c6] at H
     have c6b0:=eq_true c6;have c6b1:=zFq c6;clear c6;obtain⟨ji7,hji7⟩: ∃ j_:Int,(shr .i64 a1 (ji5))=j_:=⟨_,rfl⟩
     replace H:(if(Int.tmod (ji7) 2)=1 then(if a2=0 then(none)else(aH.j1 k1 a0 a1 a2 (wrap64 ((wrap64 (2 * x8_1))+(wrap64 (Int.tdiv a0 a2)))) (wrap64 ((wrap64 (2 * x9_1))+(Int.tmod a0 a2))) x10_1))else(aH.j1 k1 a0 a1 a2 (wrap64 (2 * x8_1)) (wrap64 (2 * x9_1)) x10_1))=some (r1,r2):=by first|(rw[hji7] at H;exact H)|(simp only[hji7] at H⊢;exact H)
     have hji7_:(a1 / 2 ^ min (ji5).toNat 64)=ji7:=hji7;have hji7z:(ji5)≤64→(a1 / 2 ^ (ji5).toNat)=ji7:=shr_small hji7;have HC8:=zA H;clear H;go_upto_if 24 with(fail)
     go_cut[8,9] (fun v8 v9 wc=> ∃ (kq:Nat) (x8_7:Int) (x9_7:Int),v8= .int .i64 x8_7∧v9= .int .i64 x9_7∧Aside0 (aH.j1 kq a0 a1 a2 x8_7 x9_7 x10_1=some (r1,r2))∧Aside0 (kq≤k1)∧Drawn0 w wc)
     case first=>
      have H:=HC8.out;clear HC8;by_cases c9:(Int.tmod (ji7) 2)=1
      ·rw[if_pos c9] at H
       have c9b0:((Int.tmod (ji7) 2)==1)=true:=beq_iff_eq.mpr c9;have c9b1:((Int.tmod (ji7) 2) != 1)=false:=bne_eq_false_iff_eq.mpr c9;clear c9;(first|rw[c9b0] |(simp only[i64_w,i32_w];rw[c9b0])|skip)
       by_cases c10:a2=0
       ·rw[if_pos c10] at H
        exact absurd H (by simp)
       rw[if_neg c10] at H;have c10b0:(a2==0)=false:=beq_eq_false_iff_ne.mpr c10;have c10b1:(a2 != 0)=true:=bne_iff_ne.mpr c10;have H':=zA H;clear H;go_wp2;go_meet
       case rel=>exact⟨_,(wrap64 ((wrap64 (2 * x8_1))+(wrap64 (Int.tdiv a0 a2)))),(wrap64 ((wrap64 (2 * x9_1))+(Int.tmod a0 a2))),qF_,qF_,H',⟨by have:=HK1.out;first|omega|exact Nat.le_refl _⟩,by repeat(first|exact Drawn0.refl _|apply Drawn0.step)⟩
      rw[if_neg c9] at H;have c9b0:((Int.tmod (ji7) 2)==1)=false:=beq_eq_false_iff_ne.mpr c9;have c9b1:((Int.tmod (ji7) 2) != 1)=true:=bne_iff_ne.mpr c9;(first|rw[c9b0] |(simp only[i64_w,i32_w];rw[c9b0])|skip)
      have H':=zA H;clear H;go_wp2;go_meet
      case rel=>exact⟨_,(wrap64 (2 * x8_1)),(wrap64 (2 * x9_1)),qF_,qF_,H',⟨by have:=HK1.out;first|omega|exact Nat.le_refl _⟩,by repeat(first|exact Drawn0.refl _|apply Drawn0.step)⟩
     case rest=>
      clear HC8;try clear c1
      try clear p2
      try clear c4
      try clear c4b0
      try clear c6
      try clear c6b0
      try clear c6b1
      try clear p6
      try clear c9
      try clear c9b0
      try clear c9b1
      try clear c10
      try clear c10b0
      try clear c10b1
      try clear p2
      obtain⟨kq,x8_7,x9_7,rfl,rfl,HA,HJ7,⟨mc7,rfl⟩⟩:=hcut;cases kq with
      |zero=>exact absurd HA.out (by simp[aH.j1])
      |succ kj7=>
       have H:=HA.out;clear HA;simp only[aH.j1] at H;have H':=zA H;clear H;go_wp2;go_loopg[8,9] kj7 (fun kq v8 v9 w'=> ∃ (x8_3:Int) (x9_3:Int),v8= .int .i64 x8_3∧v9= .int .i64 x9_3∧Aside0 (aH.l1 kq a0 a1 a2 x8_3 x9_3 x10_1=some (r1,r2))∧Aside0 (kq≤kj7)∧Drawn0 w w')
       case atStart=>exact⟨(x8_7),(x9_7),qF_,qF_,H',⟨Nat.le_refl _⟩,by repeat(first|exact Drawn0.refl _|apply Drawn0.step)⟩
       case round=>
        clear H';try clear c1
        try clear p2
        try clear c4
        try clear c4b0
        try clear c6
        try clear c6b0
        try clear c6b1
        try clear p6
        try clear c7
        try clear c9
        try clear c9b0
        try clear c9b1
        try clear c10
        try clear c10b0
        try clear c10b1
        try clear p2
        try clear p6
        obtain⟨x8_3,x9_3,rfl,rfl,HA,HK3,⟨m3,rfl⟩⟩:=hrel;cases gk with
        |zero=>exact absurd HA.out (by simp[aH.l1])
        |succ k3=>
         have H:=HA.out;clear HA;simp only[aH.l1] at H;by_cases c11:x9_3≥a2
         ·rw[if_pos c11] at H
          have c11b0:decide (a2≤x9_3)=true:=zFq c11;clear c11;have H':=zA H;clear H;go_wp2;go_roundg k3
          case measure=>have:=HK1.out;have:=HJ7.out;have:=HK3.out;omega
          case rel=>exact⟨(wrap64 (x8_3+1)),(wrap64 (x9_3 - a2)),qF_,qF_,H',⟨by have:=HK1.out;have:=HJ7.out;have:=HK3.out;omega⟩,by repeat(first|exact Drawn0.refl _|apply Drawn0.step)⟩
         rw[if_neg c11] at H;have c11b0:decide (a2≤x9_3)=false:=zGq c11;clear c11;by_cases c12:x8_3 > 4000000000000
         ·rw[if_pos c12] at H
          have c12b0:decide (4000000000000 < x8_3)=true:=zFq c12;clear c12;simp only[zNq,zOq] at H;obtain⟨rfl,rfl⟩:=H;go_wp2;go_ret2;exact⟨by first|rfl|(simp;done)|(simp only[←hji5,←hji7] <;> (first|rfl|simp))|(simp[*];done),by repeat(first|exact Drawn0.refl _|apply Drawn0.step)⟩
         rw[if_neg c12] at H;have c12b0:decide (4000000000000 < x8_3)=false:=zGq c12;clear c12;have H':=zA H;clear H;go_wp2;go_roundg k3
         case measure=>have:=HK1.out;have:=HJ7.out;have:=HK3.out;omega
         case rel=>exact⟨(x8_3),(x9_3),(wrap64 (x10_1 - 1)),qF_,qF_,qF_,H',⟨by have:=HK1.out;have:=HJ7.out;have:=HK3.out;omega⟩,by repeat(first|exact Drawn0.refl _|apply Drawn0.step)⟩
    rw[if_neg c6] at H;exact absurd H (by simp)
   rw[if_neg c4] at H;have c4b0:decide (0≤x10_1)=false:=zGq c4;clear c4;simp only[zNq,zOq] at H;obtain⟨rfl,rfl⟩:=H;go_wp2;go_ret2;exact⟨by first|rfl|(simp;done)|(simp[*];done),by repeat(first|exact Drawn0.refl _|apply Drawn0.step)⟩
mutual
def aG.j0:Nat→List Int→Bool→Option (Int × Int)
  |0,_,_=>none
  |k+1,x0,x14=>if x14=true then(some (0,2))else(aG.l0 k x0 0 0)
def aG.l0:Nat→List Int→Int→Int→Option (Int × Int)
  |0,_,_,_=>none
  |k+1,x0,x4,x5=>if x5 < (x0.length:Int)then(if 0≤x5 then(if(rd x0 x5) < 0 then(some (0,8))else(aG.l0 k x0 x4 (wrap64 (x5+1))))else(none))else(aG.l1 k x0 x4 0)
def aG.l1:Nat→List Int→Int→Int→Option (Int × Int)
  |0,_,_,_=>none
  |k+1,x0,x4,x6=>if x6 < (x0.length:Int)then(if 0≤x6 then(if(rd x0 x6) > 1000000000000 then(some (0,8))else(if(rd x0 x6) > (wrap64 (1000000000000 - x4))then(some (0,8))else(aG.l1 k x0 (wrap64 (x4+(rd x0 x6))) (wrap64 (x6+1)))))else(none))else(if x4=0 then(some ((x0.length:Int),0))else(some (x4,0)))
end
def aG.f (k:Nat) (l0:List Int):Option (Int × Int):=if(l0.length:Int)=0 then(aG.j0 k l0 true)else(aG.j0 k l0 (decide ((l0.length:Int) > 200)))
theorem aG.mono_l: ∀ k,(∀ y0 y1,LeO (aG.j0 k y0 y1) (aG.j0 (k+1) y0 y1))∧(∀ y0 y1 y2,LeO (aG.l0 k y0 y1 y2) (aG.l0 (k+1) y0 y1 y2))∧(∀ y0 y1 y2,LeO (aG.l1 k y0 y1 y2) (aG.l1 (k+1) y0 y1 y2))
  |0=> ⟨fun _ _ r h=>by simp[aG.j0] at h,fun _ _ _ r h=>by simp[aG.l0] at h,fun _ _ _ r h=>by simp[aG.l1] at h⟩
  |k+1=>by
    obtain⟨ih0,ih1,ih2⟩:=aG.mono_l k
    refine⟨?_,?_,?_⟩
    · intro y0 y1
      unfold aG.j0
      repeat' (with_reducible first|exact ih0 _ _|exact ih1 _ _ _|exact ih2 _ _ _|exact LeO.refl _|exact LeO.none _|refine LeO.ite ?_ ?_|refine LeO.bind ?_ (fun _=>?_))
    · intro y0 y1 y2
      unfold aG.l0
      repeat' (with_reducible first|exact ih0 _ _|exact ih1 _ _ _|exact ih2 _ _ _|exact LeO.refl _|exact LeO.none _|refine LeO.ite ?_ ?_|refine LeO.bind ?_ (fun _=>?_))
    intro y0 y1 y2
    unfold aG.l1
    repeat' (with_reducible first|exact ih0 _ _|exact ih1 _ _ _|exact ih2 _ _ _|exact LeO.refl _|exact LeO.none _|refine LeO.ite ?_ ?_|refine LeO.bind ?_ (fun _=>?_))
theorem aG.mono: ∀ a0 k,LeO (aG.f k a0) (aG.f (k+1) a0):=by
  intro a0 k
  obtain⟨ih0,ih1,ih2⟩:=aG.mono_l k
  unfold aG.f
  repeat' (with_reducible first|exact ih0 _ _|exact ih1 _ _ _|exact ih2 _ _ _|exact LeO.refl _|exact LeO.none _|refine LeO.ite ?_ ?_|refine LeO.bind ?_ (fun _=>?_))
theorem aG.calls (k:Nat) (A0:Option Addr) (c0:Nat) (l0:List Int) (r1:Int) (r2:Int) (w:World) (hr0:Kd.C (Kd.int .i64) w A0 l0.length l0) (hc0:l0.length≤c0) (h:aG.f k l0=some (r1,r2)):
  Calls Try.prog 58 #[.slice A0 l0.length c0] w fun e w'=>e= .returned (.tuple #[.int .i64 r1,.int .i64 r2])∧Drawn0 w w':=by
 have HR0:=zA hr0
 have HC0:=zA hc0
 clear hr0 hc0
 have H:(if(l0.length:Int)=0 then(aG.j0 k l0 true)else(aG.j0 k l0 (decide ((l0.length:Int) > 200))))=some (r1,r2):=h
 clear h
 have HC2:=zA H
 clear H
 go_enter Try.func58,Try.ntmps58
 go_upto_region 1 with(fail)
 go_cut[14] (fun v14 wc=> ∃ (kq:Nat) (x14_1:Bool),v14= .bool x14_1∧Aside0 (aG.j0 kq l0 x14_1=some (r1,r2))∧Aside0 (kq≤k)∧Drawn0 w wc)
 case first=>
  have H:=HC2.out;clear HC2;by_cases c3:(l0.length:Int)=0
  ·rw[if_pos c3] at H
   have c3b0:((l0.length:Int)==0)=true:=beq_iff_eq.mpr c3;have c3b1:((l0.length:Int) != 0)=false:=bne_eq_false_iff_eq.mpr c3;clear c3;(first|rw[c3b0] |(simp only[i64_w,i32_w];rw[c3b0])|skip)
   have H':=zA H;clear H;go_wp2;go_meet
   case rel=>exact⟨_,(true),qF_,H',⟨by first|omega|exact Nat.le_refl _⟩,by repeat(first|exact Drawn0.refl _|apply Drawn0.step)⟩
  rw[if_neg c3] at H;have c3b0:((l0.length:Int)==0)=false:=beq_eq_false_iff_ne.mpr c3;have c3b1:((l0.length:Int) != 0)=true:=bne_iff_ne.mpr c3;have c3b2: ¬ (l0=[]):=fun h_=>c3 (by rw[h_];rfl)
  (first|rw[c3b0] |(simp only[i64_w,i32_w];rw[c3b0])|skip)
  have H':=zA H;clear H;go_wp2;go_meet
  case rel=>exact⟨_,(decide ((l0.length:Int) > 200)),qF_,H',⟨by first|omega|exact Nat.le_refl _⟩,by repeat(first|exact Drawn0.refl _|apply Drawn0.step)⟩
 case rest=>
  clear HC2;try clear p2
  try clear c3
  try clear c3b0
  try clear c3b1
  try clear c3b2
  obtain⟨kq,x14_1,rfl,HA,HJ1,⟨mc1,rfl⟩⟩:=hcut;cases kq with
  |zero=>exact absurd HA.out (by simp[aG.j0])
  |succ kj1=>
   have H:=HA.out;clear HA;simp only[aG.j0] at H;by_cases c4:x14_1=true
   ·subst c4
    have H1:(some (0,2))=some (r1,r2):=by first|(rw[if_pos rfl] at H;exact H)|rfl
    clear H;have H:=H1;clear H1;simp only[zNq,zOq] at H;obtain⟨rfl,rfl⟩:=H;go_wp2;go_ret2;exact⟨by first|rfl|(simp;done)|(simp[*];done),by repeat(first|exact Drawn0.refl _|apply Drawn0.step)⟩
   replace c4:=Bool.eq_false_iff.mpr c4;subst c4;have H1:(aG.l0 kj1 l0 0 0)=some (r1,r2):=by first|(rw[if_neg (show ¬ (false=true) by decide)] at H;exact H)|rfl
   clear H;have H:=H1;clear H1;have H':=zA H;clear H;go_wp2;go_loopg[5] kj1 (fun kq v5 w'=> ∃ (x5_2:Int),v5= .int .i64 x5_2∧Aside0 (aG.l0 kq l0 0 x5_2=some (r1,r2))∧Aside0 (kq≤kj1)∧Drawn0 w w')
   case atStart=>exact⟨(0),qF_,H',⟨Nat.le_refl _⟩,by repeat(first|exact Drawn0.refl _|apply Drawn0.step)⟩
   case round=>
    clear H';try clear c1
    try clear p2
    try clear c3
    try clear c3b0
    try clear c3b1
    try clear c3b2
    try clear c4
    try clear p2
    obtain⟨x5_2,rfl,HA,HK2,⟨m2,rfl⟩⟩:=hrel;cases gk with
    |zero=>exact absurd HA.out (by simp[aG.l0])
    |succ k2=>
     have H:=HA.out;clear HA;simp only[aG.l0] at H;by_cases c5:x5_2 < (l0.length:Int)
     ·rw[if_pos c5] at H
      have c5b0:=zFq c5;clear c5;by_cases c6:0≤x5_2
      ·rw[if_pos c6] at H
       have c6b0:=zFq c6;clear c6;by_cases c7:(rd l0 x5_2) < 0
       ·rw[if_pos c7] at H
        have c7b0:=zFq c7;clear c7;simp only[zNq,zOq] at H;obtain⟨rfl,rfl⟩:=H;have p101:0≤(x5_2:Int):=qO_;have q101:x5_2 < (l0.length:Int):=qO_;obtain⟨ad101,e101,hx101_0⟩:=Kd.at_int HR0.out x5_2 p101 q101;cases e101
        replace p101:=eq_true p101;replace q101:=eq_true q101;go_wp2;go_ret2;exact⟨by first|rfl|(simp;done)|(simp[*];done),by repeat(first|exact Drawn0.refl _|apply Drawn0.step)⟩
       rw[if_neg c7] at H;have c7b0:=zGq c7;clear c7;have H':=zA H;clear H;have p101:0≤(x5_2:Int):=qO_;have q101:x5_2 < (l0.length:Int):=qO_;obtain⟨ad101,e101,hx101_0⟩:=Kd.at_int HR0.out x5_2 p101 q101;cases e101
       replace p101:=eq_true p101;replace q101:=eq_true q101;go_wp2;go_roundg k2
       case measure=>have:=HJ1.out;have:=HK2.out;omega
       case rel=>exact⟨(wrap64 (x5_2+1)),qF_,H',⟨by have:=HJ1.out;have:=HK2.out;omega⟩,by repeat(first|exact Drawn0.refl _|apply Drawn0.step)⟩
      rw[if_neg c6] at H;exact absurd H (by simp)
     rw[if_neg c5] at H;have c5b0:=zGq c5;clear c5;have H':=zA H;clear H;go_wp2;go_loopg[4,6] k2 (fun kq v4 v6 w'=> ∃ (x4_3:Int) (x6_3:Int),v4= .int .i64 x4_3∧v6= .int .i64 x6_3∧Aside0 (aG.l1 kq l0 x4_3 x6_3=some (r1,r2))∧Aside0 (kq≤k2)∧Drawn0 w w')
     case atStart=>exact⟨(0),(0),qF_,qF_,H',⟨Nat.le_refl _⟩,by repeat(first|exact Drawn0.refl _|apply Drawn0.step)⟩
     case round=>
      clear H';try clear c1
      try clear p1
      try clear q1
      try clear hx1
      try clear p2
      try clear c3
      try clear c3b0
      try clear c3b1
      try clear c3b2
      try clear c4
      try clear c5
      try clear c5b0
      try clear c6
      try clear c6b0
      try clear p6
      try clear c7
      try clear c7b0
      try clear hx101_0
      try clear p101
      try clear p2
      try clear q101
      obtain⟨x4_3,x6_3,rfl,rfl,HA,HK3,⟨m3,rfl⟩⟩:=hrel;cases gk with
      |zero=>exact absurd HA.out (by simp[aG.l1])
      |succ k3=>
       have H:=HA.out;clear HA;simp only[aG.l1] at H;by_cases c8:x6_3 < (l0.length:Int)
       ·rw[if_pos c8] at H
        have c8b0:=zFq c8;clear c8;by_cases c9:0≤x6_3
        ·rw[if_pos c9] at H
         have c9b0:=zFq c9;clear c9;by_cases c10:(rd l0 x6_3) > 1000000000000
         ·rw[if_pos c10] at H
          have c10b0:decide (1000000000000 < (rd l0 x6_3))=true:=zFq c10;clear c10;simp only[zNq,zOq] at H;obtain⟨rfl,rfl⟩:=H;have p102:0≤(x6_3:Int):=qO_;have q102:x6_3 < (l0.length:Int):=qO_;obtain⟨ad102,e102,hx102_0⟩:=Kd.at_int HR0.out x6_3 p102 q102;cases e102
          replace p102:=eq_true p102;replace q102:=eq_true q102;go_wp2;go_ret2;exact⟨by first|rfl|(simp;done)|(simp[*];done),by repeat(first|exact Drawn0.refl _|apply Drawn0.step)⟩
         rw[if_neg c10] at H;have c10b0:decide (1000000000000 < (rd l0 x6_3))=false:=zGq c10;clear c10;by_cases c11:(rd l0 x6_3) > (wrap64 (1000000000000 - x4_3))
         ·rw[if_pos c11] at H
          have c11b0:decide ((wrap64 (1000000000000 - x4_3)) < (rd l0 x6_3))=true:=zFq c11;clear c11;simp only[zNq,zOq] at H;obtain⟨rfl,rfl⟩:=H;have p102:0≤(x6_3:Int):=qO_;have q102:x6_3 < (l0.length:Int):=qO_;obtain⟨ad102,e102,hx102_0⟩:=Kd.at_int HR0.out x6_3 p102 q102;cases e102
          replace p102:=eq_true p102;replace q102:=eq_true q102;have p103:0≤(x6_3:Int):=qO_;have q103:x6_3 < (l0.length:Int):=qO_;obtain⟨ad103,e103,hx103_0⟩:=Kd.at_int HR0.out x6_3 p103 q103;obtain rfl:ad102=ad103:=(by injection e103)
          replace p103:=eq_true p103;replace q103:=eq_true q103;go_wp2;go_ret2;exact⟨by first|rfl|(simp;done)|(simp[*];done),by repeat(first|exact Drawn0.refl _|apply Drawn0.step)⟩
         rw[if_neg c11] at H;have c11b0:decide ((wrap64 (1000000000000 - x4_3)) < (rd l0 x6_3))=false:=zGq c11;clear c11;have H':=zA H;clear H;have p102:0≤(x6_3:Int):=qO_;have q102:x6_3 < (l0.length:Int):=qO_;obtain⟨ad102,e102,hx102_0⟩:=Kd.at_int HR0.out x6_3 p102 q102;cases e102
         replace p102:=eq_true p102;replace q102:=eq_true q102;have p103:0≤(x6_3:Int):=qO_;have q103:x6_3 < (l0.length:Int):=qO_;obtain⟨ad103,e103,hx103_0⟩:=Kd.at_int HR0.out x6_3 p103 q103;obtain rfl:ad102=ad103:=(by injection e103)
         replace p103:=eq_true p103;replace q103:=eq_true q103;have p104:0≤(x6_3:Int):=qO_;have q104:x6_3 < (l0.length:Int):=qO_;obtain⟨ad104,e104,hx104_0⟩:=Kd.at_int HR0.out x6_3 p104 q104;obtain rfl:ad102=ad104:=(by injection e104)
         replace p104:=eq_true p104;replace q104:=eq_true q104;go_wp2;go_roundg k3
         case measure=>have:=HJ1.out;have:=HK2.out;have:=HK3.out;omega
         case rel=>exact⟨(wrap64 (x4_3+(rd l0 x6_3))),(wrap64 (x6_3+1)),qF_,qF_,H',⟨by have:=HJ1.out;have:=HK2.out;have:=HK3.out;omega⟩,by repeat(first|exact Drawn0.refl _|apply Drawn0.step)⟩
        rw[if_neg c9] at H;exact absurd H (by simp)
       rw[if_neg c8] at H;have c8b0:=zGq c8;clear c8;by_cases c12:x4_3=0
       ·rw[if_pos c12] at H
        have c12b0:(x4_3==0)=true:=beq_iff_eq.mpr c12;have c12b1:(x4_3 != 0)=false:=bne_eq_false_iff_eq.mpr c12;clear c12;simp only[zNq,zOq] at H;obtain⟨rfl,rfl⟩:=H;go_wp2;go_ret2;exact⟨by first|rfl|(simp;done)|(simp[*];done),by repeat(first|exact Drawn0.refl _|apply Drawn0.step)⟩
       rw[if_neg c12] at H;have c12b0:(x4_3==0)=false:=beq_eq_false_iff_ne.mpr c12;have c12b1:(x4_3 != 0)=true:=bne_iff_ne.mpr c12;simp only[zNq,zOq] at H;obtain⟨rfl,rfl⟩:=H;go_wp2;go_ret2;exact⟨by first|rfl|(simp;done)|(simp[*];done),by repeat(first|exact Drawn0.refl _|apply Drawn0.step)⟩
mutual
def aC.j0:Nat→Int→List Int→Int→Bool→Option (List Int × Int)
  |0,_,_,_,_=>none
  |k+1,x0,x1,x6,x32=>if x32=true then(some (([] :List Int),8))else(aC.l0 k x0 x1 x6 0 0)
def aC.l0:Nat→Int→List Int→Int→Int→Int→Option (List Int × Int)
  |0,_,_,_,_,_=>none
  |k+1,x0,x1,x6,x8,x9=>if x9 < (x1.length:Int)then(if 0≤x9 then(aC.l0 k x0 x1 x6 (wrap64 (x8+(rd x1 x9))) (wrap64 (x9+1)))else(none))else(aC.l1 k x0 x1 x6 x8 ([] :List Int) ([] :List Int) x0 0)
def aC.l1:Nat→Int→List Int→Int→Int→List Int→List Int→Int→Int→Option (List Int × Int)
  |0,_,_,_,_,_,_,_,_=>none
  |k+1,x0,x1,x6,x8,x10,x11,x12,x13=>if x13 < (x1.length:Int)then(if 0≤x13 then(if x8=0 then((aH.f k x0 1 x6).bind fun bt105=> (if x10.length < 17592186044416 then(if x11.length < 17592186044416 then(aC.l1 k x0 x1 x6 x8 (x10++ [bt105.1]) (x11++ [bt105.2]) (wrap64 (x12 - bt105.1)) (wrap64 (x13+1)))else(none))else(none)))else((aH.f k x0 (rd x1 x13) x6).bind fun bt113=> (if x10.length < 17592186044416 then(if x11.length < 17592186044416 then(aC.l1 k x0 x1 x6 x8 (x10++ [bt113.1]) (x11++ [bt113.2]) (wrap64 (x12 - bt113.1)) (wrap64 (x13+1)))else(none))else(none))))else(none))else(aC.l2 k x1 x10 x11 x12)
def aC.l2:Nat→List Int→List Int→List Int→Int→Option (List Int × Int)
  |0,_,_,_,_=>none
  |k+1,x1,x10,x11,x12=>if x12 > 0 then(aC.l3 k x1 x10 x11 x12 0 0)else(some (x10,0))
def aC.l3:Nat→List Int→List Int→List Int→Int→Int→Int→Option (List Int × Int)
  |0,_,_,_,_,_,_=>none
  |k+1,x1,x10,x11,x12,x17,x18=>if x18 < (x1.length:Int)then(if 0≤x18 then(if x18 < (x11.length:Int)then(if 0≤x17 then(if x17 < (x11.length:Int)then(if(rd x11 x18) > (rd x11 x17)then(aC.l3 k x1 x10 x11 x12 x18 (wrap64 (x18+1)))else(aC.l3 k x1 x10 x11 x12 x17 (wrap64 (x18+1))))else(none))else(none))else(none))else(none))else(if 0≤x17 then(if x17 < (x10.length:Int)then(if x17 < (x11.length:Int)then(aC.l2 k x1 (x10.set (x17:Int).toNat (wrap64 ((rd x10 x17)+1))) (x11.set (x17:Int).toNat (-1)) (wrap64 (x12 - 1)))else(none))else(none))else(none))
end
def aC.f (k:Nat) (a0:Int) (l1:List Int):Option (List Int × Int):=(aG.f k l1).bind fun bt101=> (if bt101.2=0 then(if a0 < 0 then(aC.j0 k a0 l1 bt101.1 true)else(aC.j0 k a0 l1 bt101.1 (decide (a0 > 1000000000000))))else(some (([] :List Int),bt101.2)))
theorem aC.mono_l: ∀ k,(∀ y0 y1 y2 y3,LeO (aC.j0 k y0 y1 y2 y3) (aC.j0 (k+1) y0 y1 y2 y3))∧(∀ y0 y1 y2 y3 y4,LeO (aC.l0 k y0 y1 y2 y3 y4) (aC.l0 (k+1) y0 y1 y2 y3 y4))∧(∀ y0 y1 y2 y3 y4 y5 y6 y7,LeO (aC.l1 k y0 y1 y2 y3 y4 y5 y6 y7) (aC.l1 (k+1) y0 y1 y2 y3 y4 y5 y6 y7))∧(∀ y0 y1 y2 y3,LeO (aC.l2 k y0 y1 y2 y3) (aC.l2 (k+1) y0 y1 y2 y3))∧(∀ y0 y1 y2 y3 y4 y5,LeO (aC.l3 k y0 y1 y2 y3 y4 y5) (aC.l3 (k+1) y0 y1 y2 y3 y4 y5))
  |0=> ⟨fun _ _ _ _ r h=>by simp[aC.j0] at h,fun _ _ _ _ _ r h=>by simp[aC.l0] at h,fun _ _ _ _ _ _ _ _ r h=>by simp[aC.l1] at h,fun _ _ _ _ r h=>by simp[aC.l2] at h,fun _ _ _ _ _ _ r h=>by simp[aC.l3] at h⟩
  |k+1=>by
    obtain⟨ih0,ih1,ih2,ih3,ih4⟩:=aC.mono_l k
    refine⟨?_,?_,?_,?_,?_⟩
    · intro y0 y1 y2 y3
      unfold aC.j0
      repeat' (with_reducible first|exact ih0 _ _ _ _|exact ih1 _ _ _ _ _|exact ih2 _ _ _ _ _ _ _ _|exact ih3 _ _ _ _|exact ih4 _ _ _ _ _ _|exact aH.mono _ _ _ _|exact aG.mono _ _|exact LeO.refl _|exact LeO.none _|refine LeO.ite ?_ ?_|refine LeO.bind ?_ (fun _=>?_))
    · intro y0 y1 y2 y3 y4
      unfold aC.l0
      repeat' (with_reducible first|exact ih0 _ _ _ _|exact ih1 _ _ _ _ _|exact ih2 _ _ _ _ _ _ _ _|exact ih3 _ _ _ _|exact ih4 _ _ _ _ _ _|exact aH.mono _ _ _ _|exact aG.mono _ _|exact LeO.refl _|exact LeO.none _|refine LeO.ite ?_ ?_|refine LeO.bind ?_ (fun _=>?_))
    · intro y0 y1 y2 y3 y4 y5 y6 y7
      unfold aC.l1
      repeat' (with_reducible first|exact ih0 _ _ _ _|exact ih1 _ _ _ _ _|exact ih2 _ _ _ _ _ _ _ _|exact ih3 _ _ _ _|exact ih4 _ _ _ _ _ _|exact aH.mono _ _ _ _|exact aG.mono _ _|exact LeO.refl _|exact LeO.none _|refine LeO.ite ?_ ?_|refine LeO.bind ?_ (fun _=>?_))
    · intro y0 y1 y2 y3
      unfold aC.l2
      repeat' (with_reducible first|exact ih0 _ _ _ _|exact ih1 _ _ _ _ _|exact ih2 _ _ _ _ _ _ _ _|exact ih3 _ _ _ _|exact ih4 _ _ _ _ _ _|exact aH.mono _ _ _ _|exact aG.mono _ _|exact LeO.refl _|exact LeO.none _|refine LeO.ite ?_ ?_|refine LeO.bind ?_ (fun _=>?_))
    intro y0 y1 y2 y3 y4 y5
    unfold aC.l3
    repeat' (with_reducible first|exact ih0 _ _ _ _|exact ih1 _ _ _ _ _|exact ih2 _ _ _ _ _ _ _ _|exact ih3 _ _ _ _|exact ih4 _ _ _ _ _ _|exact aH.mono _ _ _ _|exact aG.mono _ _|exact LeO.refl _|exact LeO.none _|refine LeO.ite ?_ ?_|refine LeO.bind ?_ (fun _=>?_))
theorem aC.mono: ∀ a0 a1 k,LeO (aC.f k a0 a1) (aC.f (k+1) a0 a1):=by
  intro a0 a1 k
  obtain⟨ih0,ih1,ih2,ih3,ih4⟩:=aC.mono_l k
  unfold aC.f
  repeat' (with_reducible first|exact ih0 _ _ _ _|exact ih1 _ _ _ _ _|exact ih2 _ _ _ _ _ _ _ _|exact ih3 _ _ _ _|exact ih4 _ _ _ _ _ _|exact aH.mono _ _ _ _|exact aG.mono _ _|exact LeO.refl _|exact LeO.none _|refine LeO.ite ?_ ?_|refine LeO.bind ?_ (fun _=>?_))
theorem aC.calls (k:Nat) (a0:Int) (A1:Option Addr) (c1:Nat) (l1:List Int) (r1:List Int) (r2:Int) (w:World) (hr1:Kd.C (Kd.int .i64) w A1 l1.length l1) (hc1:l1.length≤c1) (h:aC.f k a0 l1=some (r1,r2)):
  Calls Try.prog 52 #[.int .i64 a0,.slice A1 l1.length c1] w fun e w'=> ∃ v0_:Value,e= .returned (.tuple #[v0_,.int .i64 r2])∧Kd.R (Kd.int .i64) 3 w' w.heap.size (fun _=>True) v0_ r1∧Below w.heap.size w w':=by
 have HR1:=zA hr1
 have HC1:=zA hc1
 clear hr1 hc1
 have HB:=zA (Below.refl w.heap.size w)
 have H:((aG.f k l1).bind fun bt101=> (if bt101.2=0 then(if a0 < 0 then(aC.j0 k a0 l1 bt101.1 true)else(aC.j0 k a0 l1 bt101.1 (decide (a0 > 1000000000000))))else(some (([] :List Int),bt101.2))))=some (r1,r2):=h
 clear h
 obtain⟨⟨t101,t102⟩,A3,H⟩:=qD_ H
 (try dsimp only at H)
 by_cases c4:t102=0
 ·rw[if_pos c4] at H
  have c4b0:(t102==0)=true:=beq_iff_eq.mpr c4;have c4b1:(t102 != 0)=false:=bne_eq_false_iff_eq.mpr c4;clear c4;have HC5:=zA H;clear H;go_enter Try.func52,Try.ntmps52;go_upto_region 4 with(first|(go_at_call 58;(with_reducible refine(aG.calls k _ _ l1 t101 t102 _ ?side1 ?side2 A3.out).mono ?_);(case side1=>repeat(first|exact HR1.out|(with_reducible refine Kd.C_alloc ?_ _)|(with_reducible refine Kd.C_drewN ?_ _)|(with_reducible refine Kd.C_drew ?_)));(case side2=>exact HC1.out);rintro e w' ⟨rfl,⟨nd,rfl⟩⟩;(try first|exact⟨rfl,_,World.drewN_drewN _ _ _⟩|exact⟨rfl,_,Eq.trans (World.drewN_drewN _ _ _) (congrArg (World.drewN _) (Nat.add_assoc _ _ _))⟩)))
  repeat(go_quiet (first|(go_at_call 58;(with_reducible refine(aG.calls k _ _ l1 t101 t102 _ ?side1 ?side2 A3.out).mono ?_);(case side1=>repeat(first|exact HR1.out|(with_reducible refine Kd.C_alloc ?_ _)|(with_reducible refine Kd.C_drewN ?_ _)|(with_reducible refine Kd.C_drew ?_)));(case side2=>exact HC1.out);rintro e w' ⟨rfl,⟨nd,rfl⟩⟩;(try first|exact⟨rfl,_,World.drewN_drewN _ _ _⟩|exact⟨rfl,_,Eq.trans (World.drewN_drewN _ _ _) (congrArg (World.drewN _) (Nat.add_assoc _ _ _))⟩)));go_upto_region 4 with(first|(go_at_call 58;(with_reducible refine(aG.calls k _ _ l1 t101 t102 _ ?side1 ?side2 A3.out).mono ?_);(case side1=>repeat(first|exact HR1.out|(with_reducible refine Kd.C_alloc ?_ _)|(with_reducible refine Kd.C_drewN ?_ _)|(with_reducible refine Kd.C_drew ?_)));(case side2=>exact HC1.out);rintro e w' ⟨rfl,⟨nd,rfl⟩⟩;(try first|exact⟨rfl,_,World.drewN_drewN _ _ _⟩|exact⟨rfl,_,Eq.trans (World.drewN_drewN _ _ _) (congrArg (World.drewN _) (Nat.add_assoc _ _ _))⟩))))
  (try simp only[Act.put,zH,zI,zJ])
  go_cut[32] (fun v32 wc=> ∃ (kq:Nat) (x32_4:Bool),v32= .bool x32_4∧Aside0 (aC.j0 kq a0 l1 t101 x32_4=some (r1,r2))∧Aside0 (kq≤k)∧Aside0 (Below w.heap.size w wc))
  case first=>
   have H:=HC5.out;clear HC5;by_cases c6:a0 < 0
   ·rw[if_pos c6] at H
    have c6b0:=zFq c6;clear c6;(first|rw[c6b0] |(simp only[i64_w,i32_w];rw[c6b0])|skip)
    have H':=zA H;clear H;go_wp2;repeat(go_quiet (fail);try go_wp2)
    go_meet
    case rel=>exact⟨_,(true),qF_,H',⟨by first|omega|exact Nat.le_refl _⟩,⟨qB⟩⟩
   rw[if_neg c6] at H;have c6b0:=zGq c6;clear c6;(first|rw[c6b0] |(simp only[i64_w,i32_w];rw[c6b0])|skip)
   have H':=zA H;clear H;go_wp2;repeat(go_quiet (fail);try go_wp2)
   go_meet
   case rel=>exact⟨_,(decide (a0 > 1000000000000)),qF_,H',⟨by first|omega|exact Nat.le_refl _⟩,⟨qB⟩⟩
  case rest=>
   clear HC5;try clear c1
   try clear p2
   try clear c4
   try clear c4b0
   try clear c4b1
   try clear c5
   try clear c6
   try clear c6b0
   obtain⟨kq,x32_4,rfl,HA,HJ4,HB⟩:=hcut;cases kq with
   |zero=>exact absurd HA.out (by simp[aC.j0])
   |succ kj4=>
    have H:=HA.out;clear HA;simp only[aC.j0] at H;by_cases c7:x32_4=true
    ·subst c7
     have H1:(some (([] :List Int),8))=some (r1,r2):=by first|(rw[if_pos rfl] at H;exact H)|rfl
     clear H;have H:=H1;clear H1;simp only[zNq,zOq] at H;obtain⟨rfl,rfl⟩:=H;go_wp2;repeat(go_quiet (fail);try go_wp2)
     go_ret2;exact⟨_,qE,qN,qB⟩
    replace c7:=Bool.eq_false_iff.mpr c7;subst c7;have H1:(aC.l0 kj4 a0 l1 t101 0 0)=some (r1,r2):=by first|(rw[if_neg (show ¬ (false=true) by decide)] at H;exact H)|rfl
    clear H;have H:=H1;clear H1;have H':=zA H;clear H;go_wp2;repeat(go_quiet (fail);try go_wp2)
    go_loopg[8,9] kj4 (fun kq v8 v9 w'=> ∃ (x8_2:Int) (x9_2:Int),v8= .int .i64 x8_2∧v9= .int .i64 x9_2∧Aside0 (aC.l0 kq a0 l1 t101 x8_2 x9_2=some (r1,r2))∧Aside0 (kq≤kj4)∧Aside0 (Below w.heap.size w w'))
    case atStart=>exact⟨(0),(0),qF_,qF_,H',⟨Nat.le_refl _⟩,⟨qB⟩⟩
    case round=>
     clear H';try clear c1
     try clear p2
     try clear c4
     try clear c4b0
     try clear c4b1
     try clear c5
     try clear c6
     try clear c6b0
     try clear c7
     try clear p2
     obtain⟨x8_2,x9_2,rfl,rfl,HA,HK2,HB⟩:=hrel;cases gk with
     |zero=>exact absurd HA.out (by simp[aC.l0])
     |succ k2=>
      have H:=HA.out;clear HA;simp only[aC.l0] at H;by_cases c8:x9_2 < (l1.length:Int)
      ·rw[if_pos c8] at H
       have c8b0:=zFq c8;clear c8;by_cases c9:0≤x9_2
       ·rw[if_pos c9] at H
        have c9b0:=zFq c9;clear c9;have H':=zA H;clear H;have p103:0≤(x9_2:Int):=qO_;have q103:x9_2 < (l1.length:Int):=qO_;obtain⟨ad103,e103,hx103_0⟩:=Kd.at_int HR1.out x9_2 p103 q103;cases e103
        replace hx103_0:=qU_ hx103_0;replace p103:=eq_true p103;replace q103:=eq_true q103;go_wp2;repeat(go_quiet (fail);try go_wp2)
        go_roundg k2
        case measure=>have:=HJ4.out;have:=HK2.out;omega
        case rel=>exact⟨(wrap64 (x8_2+(rd l1 x9_2))),(wrap64 (x9_2+1)),qF_,qF_,H',⟨by have:=HJ4.out;have:=HK2.out;omega⟩,⟨qB⟩⟩
       rw[if_neg c9] at H;exact absurd H (by simp)
      rw[if_neg c8] at H;have c8b0:=zGq c8;clear c8;have H':=zA H;clear H;go_wp2;repeat(go_quiet (fail);try go_wp2)
      go_loopg[10,11,12,13] k2 (fun kq v10 v11 v12 v13 w'=> ∃ (x10_3:List Int) (x11_3:List Int) (x12_3:Int) (x13_3:Int),v12= .int .i64 x12_3∧v13= .int .i64 x13_3∧Aside0 (aC.l1 kq a0 l1 t101 x8_2 x10_3 x11_3 x12_3 x13_3=some (r1,r2))∧Aside0 (kq≤k2)∧Aside0 (Kd.R (Kd.int .i64) 3 w' w.heap.size (fun k_=>some k_≠(v11:Value).ownBlock) v10 x10_3)∧Aside0 (Kd.R (Kd.int .i64) 3 w' w.heap.size (fun k_=>some k_≠(v10:Value).ownBlock) v11 x11_3)∧Aside0 (Below w.heap.size w w'))
      case atStart=>exact⟨(([] :List Int)),(([] :List Int)),(a0),(0),qF_,qF_,H',⟨Nat.le_refl _⟩,⟨qN⟩,⟨qN⟩,⟨qB⟩⟩
      case round=>
       clear H';try clear c1
       try clear p1
       try clear q1
       try clear hx1
       try clear p2
       try clear c4
       try clear c4b0
       try clear c4b1
       try clear c5
       try clear c6
       try clear c6b0
       try clear p6
       try clear c7
       try clear c8
       try clear c8b0
       try clear c9
       try clear c9b0
       try clear hx103_0
       try clear p103
       try clear p2
       try clear q103
       obtain⟨x10_3,x11_3,x12_3,x13_3,rfl,rfl,HA,HK3,HO_10,HO_11,HB⟩:=hrel;cases gk with
       |zero=>exact absurd HA.out (by simp[aC.l1])
       |succ k3=>
        have H:=HA.out;clear HA;simp only[aC.l1] at H;by_cases c10:x13_3 < (l1.length:Int)
        ·rw[if_pos c10] at H
         have c10b0:=zFq c10;clear c10;by_cases c11:0≤x13_3
         ·rw[if_pos c11] at H
          have c11b0:=zFq c11;clear c11;by_cases c12:x8_2=0
          ·rw[if_pos c12] at H
           have c12b0:(x8_2==0)=true:=beq_iff_eq.mpr c12;have c12b1:(x8_2 != 0)=false:=bne_eq_false_iff_eq.mpr c12;clear c12;obtain⟨⟨t105,t106⟩,A13,H⟩:=qD_ H;(try dsimp only at H);by_cases c14:x10_3.length < 17592186044416
           ·rw[if_pos c14] at H
            have LMc14:=zA c14;clear c14;obtain⟨y107,hy107⟩: ∃ y_:List Int,y_=(x10_3++ [t105]):=⟨_,rfl⟩
            replace H:(if x11_3.length < 17592186044416 then(aC.l1 k3 a0 l1 t101 x8_2 y107 (x11_3++ [t106]) (wrap64 (x12_3 - t105)) (wrap64 (x13_3+1)))else(none))=some (r1,r2):=by first|(rw[hy107];with_reducible exact H)|(have H2_:=(Option.bind_some _ _).symm.trans H;rw[hy107];with_reducible exact H2_)|(have H2_:=(Option.bind_some _ _).symm.trans H;with_reducible exact H2_)|with_reducible exact H|(rw[hy107];exact H)|exact H
            have Ny107:=zA hy107;clear hy107;by_cases c15:x11_3.length < 17592186044416
            ·rw[if_pos c15] at H
             have LMc15:=zA c15;clear c15;obtain⟨y110,hy110⟩: ∃ y_:List Int,y_=(x11_3++ [t106]):=⟨_,rfl⟩
             replace H:(aC.l1 k3 a0 l1 t101 x8_2 y107 y110 (wrap64 (x12_3 - t105)) (wrap64 (x13_3+1)))=some (r1,r2):=by first|(rw[hy110];with_reducible exact H)|(have H2_:=(Option.bind_some _ _).symm.trans H;rw[hy110];with_reducible exact H2_)|(have H2_:=(Option.bind_some _ _).symm.trans H;with_reducible exact H2_)|with_reducible exact H|(rw[hy110];exact H)|exact H
             have Ny110:=zA hy110;clear hy110;have H':=zA H;clear H;have p104:0≤(x13_3:Int):=qO_;have q104:x13_3 < (l1.length:Int):=qO_;obtain⟨ad104,e104,hx104_0⟩:=Kd.at_int HR1.out x13_3 p104 q104;cases e104
             replace hx104_0:=qU_ hx104_0;replace p104:=eq_true p104;replace q104:=eq_true q104;go_wp2_with (first|(go_at_call 102;(with_reducible refine(aH.calls k3 a0 1 t101 t105 t106 _ A13.out).mono ?_);rintro e w' ⟨rfl,⟨nd,rfl⟩⟩;(try first|exact⟨rfl,_,World.drewN_drewN _ _ _⟩|exact⟨rfl,_,Eq.trans (World.drewN_drewN _ _ _) (congrArg (World.drewN _) (Nat.add_assoc _ _ _))⟩))|((with_reducible refine gate_builtin (b:= .append) (xs:= #[.tmp 65,.tmp 67]) rfl ?_);at_builtin;refine Kd.R_append (Kd.int .i64) (w0:=w) w.heap.size rfl (.tmp 65) (.tmp 67) 22 3 (.int .i64 0) 8 rfl Try.underlying22 info3 rfl (by decide) (by omega) u10 x10_3 t105 [.int .i64 t105] (fun k_=>some k_≠(u11:Value).ownBlock) (fun _=>False) rfl rfl ?aP (fun _ hk=>hk.elim) ?aF ?aO ?aB ?aS ?aL ?_;(case aP=>exact rfl);(case aB=>exact qB);(case aF=>exact(fun k_ hk=>Kd.fresh' (Kd.R_lt (qR_ HO_11.out)) k_ hk));(case aO=>exact(qR_ HO_10.out));(case aS=>exact(zW qB));(case aL=>have:=LMc14.out;omega);intro v108 w16 ho hb hg hat;rw[←Ny107.out] at ho;replace HO_11:=zA (Kd.R_after (ok:=(fun _=>True)) (by(with_reducible repeat(first|apply Kd.R_alloc|apply Kd.R_drewN|apply Kd.R_drew));exact Kd.R_mono HO_11.out (fun _ hk=> ⟨trivial,hk⟩)) hg hat);replace HB:=zA (hb);have HO109:=zA (ho);clear HO_10 ho hb hg hat)|((with_reducible refine gate_builtin (b:= .append) (xs:= #[.tmp 69,.tmp 71]) rfl ?_);at_builtin;refine Kd.R_append (Kd.int .i64) (w0:=w) w.heap.size rfl (.tmp 69) (.tmp 71) 22 3 (.int .i64 0) 8 rfl Try.underlying22 info3 rfl (by decide) (by omega) u11 x11_3 t106 [.int .i64 t106] (fun k_=>some k_≠(v108:Value).ownBlock) (fun _=>False) rfl rfl ?aP (fun _ hk=>hk.elim) ?aF ?aO ?aB ?aS ?aL ?_;(case aP=>exact rfl);(case aB=>exact qB);(case aF=>exact(fun k_ hk=>Kd.fresh' (Kd.R_lt (qR_ HO109.out)) k_ hk));(case aO=>exact(by(with_reducible repeat(first|apply Kd.R_alloc|apply Kd.R_drewN|apply Kd.R_drew));exact Kd.R_mono HO_11.out (fun _ hk=>hk.2)));(case aS=>exact(zW qB));(case aL=>have:=LMc15.out;omega);intro v111 w17 ho hb hg hat;rw[←Ny110.out] at ho;replace HO109:=zA (Kd.R_after (ok:=(fun _=>True)) (by(with_reducible repeat(first|apply Kd.R_alloc|apply Kd.R_drewN|apply Kd.R_drew));exact Kd.R_mono HO109.out (fun _ hk=> ⟨trivial,hk⟩)) hg hat);replace HB:=zA (hb);have HO112:=zA (ho);clear HO_11 ho hb hg hat))
             repeat(go_quiet (first|(go_at_call 102;(with_reducible refine(aH.calls k3 a0 1 t101 t105 t106 _ A13.out).mono ?_);rintro e w' ⟨rfl,⟨nd,rfl⟩⟩;(try first|exact⟨rfl,_,World.drewN_drewN _ _ _⟩|exact⟨rfl,_,Eq.trans (World.drewN_drewN _ _ _) (congrArg (World.drewN _) (Nat.add_assoc _ _ _))⟩))|((with_reducible refine gate_builtin (b:= .append) (xs:= #[.tmp 65,.tmp 67]) rfl ?_);at_builtin;refine Kd.R_append (Kd.int .i64) (w0:=w) w.heap.size rfl (.tmp 65) (.tmp 67) 22 3 (.int .i64 0) 8 rfl Try.underlying22 info3 rfl (by decide) (by omega) u10 x10_3 t105 [.int .i64 t105] (fun k_=>some k_≠(u11:Value).ownBlock) (fun _=>False) rfl rfl ?aP (fun _ hk=>hk.elim) ?aF ?aO ?aB ?aS ?aL ?_;(case aP=>exact rfl);(case aB=>exact qB);(case aF=>exact(fun k_ hk=>Kd.fresh' (Kd.R_lt (qR_ HO_11.out)) k_ hk));(case aO=>exact(qR_ HO_10.out));(case aS=>exact(zW qB));(case aL=>have:=LMc14.out;omega);intro v108 w16 ho hb hg hat;rw[←Ny107.out] at ho;replace HO_11:=zA (Kd.R_after (ok:=(fun _=>True)) (by(with_reducible repeat(first|apply Kd.R_alloc|apply Kd.R_drewN|apply Kd.R_drew));exact Kd.R_mono HO_11.out (fun _ hk=> ⟨trivial,hk⟩)) hg hat);replace HB:=zA (hb);have HO109:=zA (ho);clear HO_10 ho hb hg hat)|((with_reducible refine gate_builtin (b:= .append) (xs:= #[.tmp 69,.tmp 71]) rfl ?_);at_builtin;refine Kd.R_append (Kd.int .i64) (w0:=w) w.heap.size rfl (.tmp 69) (.tmp 71) 22 3 (.int .i64 0) 8 rfl Try.underlying22 info3 rfl (by decide) (by omega) u11 x11_3 t106 [.int .i64 t106] (fun k_=>some k_≠(v108:Value).ownBlock) (fun _=>False) rfl rfl ?aP (fun _ hk=>hk.elim) ?aF ?aO ?aB ?aS ?aL ?_;(case aP=>exact rfl);(case aB=>exact qB);(case aF=>exact(fun k_ hk=>Kd.fresh' (Kd.R_lt (qR_ HO109.out)) k_ hk));(case aO=>exact(by(with_reducible repeat(first|apply Kd.R_alloc|apply Kd.R_drewN|apply Kd.R_drew));exact Kd.R_mono HO_11.out (fun _ hk=>hk.2)));(case aS=>exact(zW qB));(case aL=>have:=LMc15.out;omega);intro v111 w17 ho hb hg hat;rw[←Ny110.out] at ho;replace HO109:=zA (Kd.R_after (ok:=(fun _=>True)) (by(with_reducible repeat(first|apply Kd.R_alloc|apply Kd.R_drewN|apply Kd.R_drew));exact Kd.R_mono HO109.out (fun _ hk=> ⟨trivial,hk⟩)) hg hat);replace HB:=zA (hb);have HO112:=zA (ho);clear HO_11 ho hb hg hat));try go_wp2_with (first|(go_at_call 102;(with_reducible refine(aH.calls k3 a0 1 t101 t105 t106 _ A13.out).mono ?_);rintro e w' ⟨rfl,⟨nd,rfl⟩⟩;(try first|exact⟨rfl,_,World.drewN_drewN _ _ _⟩|exact⟨rfl,_,Eq.trans (World.drewN_drewN _ _ _) (congrArg (World.drewN _) (Nat.add_assoc _ _ _))⟩))|((with_reducible refine gate_builtin (b:= .append) (xs:= #[.tmp 65,.tmp 67]) rfl ?_);at_builtin;refine Kd.R_append (Kd.int .i64) (w0:=w) w.heap.size rfl (.tmp 65) (.tmp 67) 22 3 (.int .i64 0) 8 rfl Try.underlying22 info3 rfl (by decide) (by omega) u10 x10_3 t105 [.int .i64 t105] (fun k_=>some k_≠(u11:Value).ownBlock) (fun _=>False) rfl rfl ?aP (fun _ hk=>hk.elim) ?aF ?aO ?aB ?aS ?aL ?_;(case aP=>exact rfl);(case aB=>exact qB);(case aF=>exact(fun k_ hk=>Kd.fresh' (Kd.R_lt (qR_ HO_11.out)) k_ hk));(case aO=>exact(qR_ HO_10.out));(case aS=>exact(zW qB));(case aL=>have:=LMc14.out;omega);intro v108 w16 ho hb hg hat;rw[←Ny107.out] at ho;replace HO_11:=zA (Kd.R_after (ok:=(fun _=>True)) (by(with_reducible repeat(first|apply Kd.R_alloc|apply Kd.R_drewN|apply Kd.R_drew));exact Kd.R_mono HO_11.out (fun _ hk=> ⟨trivial,hk⟩)) hg hat);replace HB:=zA (hb);have HO109:=zA (ho);clear HO_10 ho hb hg hat)|((with_reducible refine gate_builtin (b:= .append) (xs:= #[.tmp 69,.tmp 71]) rfl ?_);at_builtin;refine Kd.R_append (Kd.int .i64) (w0:=w) w.heap.size rfl (.tmp 69) (.tmp 71) 22 3 (.int .i64 0) 8 rfl Try.underlying22 info3 rfl (by decide) (by omega) u11 x11_3 t106 [.int .i64 t106] (fun k_=>some k_≠(v108:Value).ownBlock) (fun _=>False) rfl rfl ?aP (fun _ hk=>hk.elim) ?aF ?aO ?aB ?aS ?aL ?_;(case aP=>exact rfl);(case aB=>exact qB);(case aF=>exact(fun k_ hk=>Kd.fresh' (Kd.R_lt (qR_ HO109.out)) k_ hk));(case aO=>exact(by(with_reducible repeat(first|apply Kd.R_alloc|apply Kd.R_drewN|apply Kd.R_drew));exact Kd.R_mono HO_11.out (fun _ hk=>hk.2)));(case aS=>exact(zW qB));(case aL=>have:=LMc15.out;omega);intro v111 w17 ho hb hg hat;rw[←Ny110.out] at ho;replace HO109:=zA (Kd.R_after (ok:=(fun _=>True)) (by(with_reducible repeat(first|apply Kd.R_alloc|apply Kd.R_drewN|apply Kd.R_drew));exact Kd.R_mono HO109.out (fun _ hk=> ⟨trivial,hk⟩)) hg hat);replace HB:=zA (hb);have HO112:=zA (ho);clear HO_11 ho hb hg hat)))
             go_roundg k3
             case measure=>have:=HJ4.out;have:=HK2.out;have:=HK3.out;omega
             case rel=>exact⟨(y107),(y110),(wrap64 (x12_3 - t105)),(wrap64 (x13_3+1)),qF_,qF_,H',⟨by have:=HJ4.out;have:=HK2.out;have:=HK3.out;omega⟩,⟨by(with_reducible repeat(first|apply Kd.R_alloc|apply Kd.R_drewN|apply Kd.R_drew));exact Kd.R_mono HO109.out (fun _ hk=>hk.2)⟩,⟨qR_ HO112.out⟩,⟨qB⟩⟩
            rw[if_neg c15] at H;exact absurd H (by simp)
           rw[if_neg c14] at H;exact absurd H (by simp)
          rw[if_neg c12] at H;have c12b0:(x8_2==0)=false:=beq_eq_false_iff_ne.mpr c12;have c12b1:(x8_2 != 0)=true:=bne_iff_ne.mpr c12;obtain⟨⟨t113,t114⟩,A18,H⟩:=qD_ H;(try dsimp only at H);by_cases c19:x10_3.length < 17592186044416
          ·rw[if_pos c19] at H
           have LMc19:=zA c19;clear c19;obtain⟨y115,hy115⟩: ∃ y_:List Int,y_=(x10_3++ [t113]):=⟨_,rfl⟩
           replace H:(if x11_3.length < 17592186044416 then(aC.l1 k3 a0 l1 t101 x8_2 y115 (x11_3++ [t114]) (wrap64 (x12_3 - t113)) (wrap64 (x13_3+1)))else(none))=some (r1,r2):=by first|(rw[hy115];with_reducible exact H)|(have H2_:=(Option.bind_some _ _).symm.trans H;rw[hy115];with_reducible exact H2_)|(have H2_:=(Option.bind_some _ _).symm.trans H;with_reducible exact H2_)|with_reducible exact H|(rw[hy115];exact H)|exact H
           have Ny115:=zA hy115;clear hy115;by_cases c20:x11_3.length < 17592186044416
           ·rw[if_pos c20] at H
            have LMc20:=zA c20;clear c20;obtain⟨y118,hy118⟩: ∃ y_:List Int,y_=(x11_3++ [t114]):=⟨_,rfl⟩
            replace H:(aC.l1 k3 a0 l1 t101 x8_2 y115 y118 (wrap64 (x12_3 - t113)) (wrap64 (x13_3+1)))=some (r1,r2):=by first|(rw[hy118];with_reducible exact H)|(have H2_:=(Option.bind_some _ _).symm.trans H;rw[hy118];with_reducible exact H2_)|(have H2_:=(Option.bind_some _ _).symm.trans H;with_reducible exact H2_)|with_reducible exact H|(rw[hy118];exact H)|exact H
            have Ny118:=zA hy118;clear hy118;have H':=zA H;clear H;have p104:0≤(x13_3:Int):=qO_;have q104:x13_3 < (l1.length:Int):=qO_;obtain⟨ad104,e104,hx104_0⟩:=Kd.at_int HR1.out x13_3 p104 q104;cases e104
            replace hx104_0:=qU_ hx104_0;replace p104:=eq_true p104;replace q104:=eq_true q104;go_wp2_with (first|(go_at_call 102;(with_reducible refine(aH.calls k3 a0 (rd l1 x13_3) t101 t113 t114 _ A18.out).mono ?_);rintro e w' ⟨rfl,⟨nd,rfl⟩⟩;(try first|exact⟨rfl,_,World.drewN_drewN _ _ _⟩|exact⟨rfl,_,Eq.trans (World.drewN_drewN _ _ _) (congrArg (World.drewN _) (Nat.add_assoc _ _ _))⟩))|((with_reducible refine gate_builtin (b:= .append) (xs:= #[.tmp 65,.tmp 67]) rfl ?_);at_builtin;refine Kd.R_append (Kd.int .i64) (w0:=w) w.heap.size rfl (.tmp 65) (.tmp 67) 22 3 (.int .i64 0) 8 rfl Try.underlying22 info3 rfl (by decide) (by omega) u10 x10_3 t113 [.int .i64 t113] (fun k_=>some k_≠(u11:Value).ownBlock) (fun _=>False) rfl rfl ?aP (fun _ hk=>hk.elim) ?aF ?aO ?aB ?aS ?aL ?_;(case aP=>exact rfl);(case aB=>exact qB);(case aF=>exact(fun k_ hk=>Kd.fresh' (Kd.R_lt (qR_ HO_11.out)) k_ hk));(case aO=>exact(qR_ HO_10.out));(case aS=>exact(zW qB));(case aL=>have:=LMc19.out;omega);intro v116 w21 ho hb hg hat;rw[←Ny115.out] at ho;replace HO_11:=zA (Kd.R_after (ok:=(fun _=>True)) (by(with_reducible repeat(first|apply Kd.R_alloc|apply Kd.R_drewN|apply Kd.R_drew));exact Kd.R_mono HO_11.out (fun _ hk=> ⟨trivial,hk⟩)) hg hat);replace HB:=zA (hb);have HO117:=zA (ho);clear HO_10 ho hb hg hat)|((with_reducible refine gate_builtin (b:= .append) (xs:= #[.tmp 69,.tmp 71]) rfl ?_);at_builtin;refine Kd.R_append (Kd.int .i64) (w0:=w) w.heap.size rfl (.tmp 69) (.tmp 71) 22 3 (.int .i64 0) 8 rfl Try.underlying22 info3 rfl (by decide) (by omega) u11 x11_3 t114 [.int .i64 t114] (fun k_=>some k_≠(v116:Value).ownBlock) (fun _=>False) rfl rfl ?aP (fun _ hk=>hk.elim) ?aF ?aO ?aB ?aS ?aL ?_;(case aP=>exact rfl);(case aB=>exact qB);(case aF=>exact(fun k_ hk=>Kd.fresh' (Kd.R_lt (qR_ HO117.out)) k_ hk));(case aO=>exact(by(with_reducible repeat(first|apply Kd.R_alloc|apply Kd.R_drewN|apply Kd.R_drew));exact Kd.R_mono HO_11.out (fun _ hk=>hk.2)));(case aS=>exact(zW qB));(case aL=>have:=LMc20.out;omega);intro v119 w22 ho hb hg hat;rw[←Ny118.out] at ho;replace HO117:=zA (Kd.R_after (ok:=(fun _=>True)) (by(with_reducible repeat(first|apply Kd.R_alloc|apply Kd.R_drewN|apply Kd.R_drew));exact Kd.R_mono HO117.out (fun _ hk=> ⟨trivial,hk⟩)) hg hat);replace HB:=zA (hb);have HO120:=zA (ho);clear HO_11 ho hb hg hat))
            repeat(go_quiet (first|(go_at_call 102;(with_reducible refine(aH.calls k3 a0 (rd l1 x13_3) t101 t113 t114 _ A18.out).mono ?_);rintro e w' ⟨rfl,⟨nd,rfl⟩⟩;(try first|exact⟨rfl,_,World.drewN_drewN _ _ _⟩|exact⟨rfl,_,Eq.trans (World.drewN_drewN _ _ _) (congrArg (World.drewN _) (Nat.add_assoc _ _ _))⟩))|((with_reducible refine gate_builtin (b:= .append) (xs:= #[.tmp 65,.tmp 67]) rfl ?_);at_builtin;refine Kd.R_append (Kd.int .i64) (w0:=w) w.heap.size rfl (.tmp 65) (.tmp 67) 22 3 (.int .i64 0) 8 rfl Try.underlying22 info3 rfl (by decide) (by omega) u10 x10_3 t113 [.int .i64 t113] (fun k_=>some k_≠(u11:Value).ownBlock) (fun _=>False) rfl rfl ?aP (fun _ hk=>hk.elim) ?aF ?aO ?aB ?aS ?aL ?_;(case aP=>exact rfl);(case aB=>exact qB);(case aF=>exact(fun k_ hk=>Kd.fresh' (Kd.R_lt (qR_ HO_11.out)) k_ hk));(case aO=>exact(qR_ HO_10.out));(case aS=>exact(zW qB));(case aL=>have:=LMc19.out;omega);intro v116 w21 ho hb hg hat;rw[←Ny115.out] at ho;replace HO_11:=zA (Kd.R_after (ok:=(fun _=>True)) (by(with_reducible repeat(first|apply Kd.R_alloc|apply Kd.R_drewN|apply Kd.R_drew));exact Kd.R_mono HO_11.out (fun _ hk=> ⟨trivial,hk⟩)) hg hat);replace HB:=zA (hb);have HO117:=zA (ho);clear HO_10 ho hb hg hat)|((with_reducible refine gate_builtin (b:= .append) (xs:= #[.tmp 69,.tmp 71]) rfl ?_);at_builtin;refine Kd.R_append (Kd.int .i64) (w0:=w) w.heap.size rfl (.tmp 69) (.tmp 71) 22 3 (.int .i64 0) 8 rfl Try.underlying22 info3 rfl (by decide) (by omega) u11 x11_3 t114 [.int .i64 t114] (fun k_=>some k_≠(v116:Value).ownBlock) (fun _=>False) rfl rfl ?aP (fun _ hk=>hk.elim) ?aF ?aO ?aB ?aS ?aL ?_;(case aP=>exact rfl);(case aB=>exact qB);(case aF=>exact(fun k_ hk=>Kd.fresh' (Kd.R_lt (qR_ HO117.out)) k_ hk));(case aO=>exact(by(with_reducible repeat(first|apply Kd.R_alloc|apply Kd.R_drewN|apply Kd.R_drew));exact Kd.R_mono HO_11.out (fun _ hk=>hk.2)));(case aS=>exact(zW qB));(case aL=>have:=LMc20.out;omega);intro v119 w22 ho hb hg hat;rw[←Ny118.out] at ho;replace HO117:=zA (Kd.R_after (ok:=(fun _=>True)) (by(with_reducible repeat(first|apply Kd.R_alloc|apply Kd.R_drewN|apply Kd.R_drew));exact Kd.R_mono HO117.out (fun _ hk=> ⟨trivial,hk⟩)) hg hat);replace HB:=zA (hb);have HO120:=zA (ho);clear HO_11 ho hb hg hat));try go_wp2_with (first|(go_at_call 102;(with_reducible refine(aH.calls k3 a0 (rd l1 x13_3) t101 t113 t114 _ A18.out).mono ?_);rintro e w' ⟨rfl,⟨nd,rfl⟩⟩;(try first|exact⟨rfl,_,World.drewN_drewN _ _ _⟩|exact⟨rfl,_,Eq.trans (World.drewN_drewN _ _ _) (congrArg (World.drewN _) (Nat.add_assoc _ _ _))⟩))|((with_reducible refine gate_builtin (b:= .append) (xs:= #[.tmp 65,.tmp 67]) rfl ?_);at_builtin;refine Kd.R_append (Kd.int .i64) (w0:=w) w.heap.size rfl (.tmp 65) (.tmp 67) 22 3 (.int .i64 0) 8 rfl Try.underlying22 info3 rfl (by decide) (by omega) u10 x10_3 t113 [.int .i64 t113] (fun k_=>some k_≠(u11:Value).ownBlock) (fun _=>False) rfl rfl ?aP (fun _ hk=>hk.elim) ?aF ?aO ?aB ?aS ?aL ?_;(case aP=>exact rfl);(case aB=>exact qB);(case aF=>exact(fun k_ hk=>Kd.fresh' (Kd.R_lt (qR_ HO_11.out)) k_ hk));(case aO=>exact(qR_ HO_10.out));(case aS=>exact(zW qB));(case aL=>have:=LMc19.out;omega);intro v116 w21 ho hb hg hat;rw[←Ny115.out] at ho;replace HO_11:=zA (Kd.R_after (ok:=(fun _=>True)) (by(with_reducible repeat(first|apply Kd.R_alloc|apply Kd.R_drewN|apply Kd.R_drew));exact Kd.R_mono HO_11.out (fun _ hk=> ⟨trivial,hk⟩)) hg hat);replace HB:=zA (hb);have HO117:=zA (ho);clear HO_10 ho hb hg hat)|((with_reducible refine gate_builtin (b:= .append) (xs:= #[.tmp 69,.tmp 71]) rfl ?_);at_builtin;refine Kd.R_append (Kd.int .i64) (w0:=w) w.heap.size rfl (.tmp 69) (.tmp 71) 22 3 (.int .i64 0) 8 rfl Try.underlying22 info3 rfl (by decide) (by omega) u11 x11_3 t114 [.int .i64 t114] (fun k_=>some k_≠(v116:Value).ownBlock) (fun _=>False) rfl rfl ?aP (fun _ hk=>hk.elim) ?aF ?aO ?aB ?aS ?aL ?_;(case aP=>exact rfl);(case aB=>exact qB);(case aF=>exact(fun k_ hk=>Kd.fresh' (Kd.R_lt (qR_ HO117.out)) k_ hk));(case aO=>exact(by(with_reducible repeat(first|apply Kd.R_alloc|apply Kd.R_drewN|apply Kd.R_drew));exact Kd.R_mono HO_11.out (fun _ hk=>hk.2)));(case aS=>exact(zW qB));(case aL=>have:=LMc20.out;omega);intro v119 w22 ho hb hg hat;rw[←Ny118.out] at ho;replace HO117:=zA (Kd.R_after (ok:=(fun _=>True)) (by(with_reducible repeat(first|apply Kd.R_alloc|apply Kd.R_drewN|apply Kd.R_drew));exact Kd.R_mono HO117.out (fun _ hk=> ⟨trivial,hk⟩)) hg hat);replace HB:=zA (hb);have HO120:=zA (ho);clear HO_11 ho hb hg hat)))
            go_roundg k3
            case measure=>have:=HJ4.out;have:=HK2.out;have:=HK3.out;omega
            case rel=>exact⟨(y115),(y118),(wrap64 (x12_3 - t113)),(wrap64 (x13_3+1)),qF_,qF_,H',⟨by have:=HJ4.out;have:=HK2.out;have:=HK3.out;omega⟩,⟨by(with_reducible repeat(first|apply Kd.R_alloc|apply Kd.R_drewN|apply Kd.R_drew));exact Kd.R_mono HO117.out (fun _ hk=>hk.2)⟩,⟨qR_ HO120.out⟩,⟨qB⟩⟩
           rw[if_neg c20] at H;exact absurd H (by simp)
          rw[if_neg c19] at H;exact absurd H (by simp)
         rw[if_neg c11] at H;exact absurd H (by simp)
        rw[if_neg c10] at H;have c10b0:=zGq c10;clear c10;have H':=zA H;clear H;go_wp2;repeat(go_quiet (fail);try go_wp2)
        go_loopg[12] k3 (fun kq v12 w'=> ∃ (x10_4:List Int) (x11_4:List Int) (x12_4:Int),v12= .int .i64 x12_4∧Aside0 (aC.l2 kq l1 x10_4 x11_4 x12_4=some (r1,r2))∧Aside0 (kq≤k3)∧Aside0 (Kd.R (Kd.int .i64) 3 w' w.heap.size (fun k_=>some k_≠(u11:Value).ownBlock) u10 x10_4)∧Aside0 (Kd.R (Kd.int .i64) 3 w' w.heap.size (fun k_=>some k_≠(u10:Value).ownBlock) u11 x11_4)∧Aside0 (Below w.heap.size w w'))
        case atStart=>exact⟨(x10_3),(x11_3),(x12_3),qF_,H',⟨Nat.le_refl _⟩,⟨qR_ HO_10.out⟩,⟨qR_ HO_11.out⟩,⟨qB⟩⟩
        case round=>
         clear H';try clear c1
         try clear p1
         try clear q1
         try clear hx1
         try clear c2
         try clear p2
         try clear c4
         try clear c4b0
         try clear c4b1
         try clear c5
         try clear c6
         try clear c6b0
         try clear p6
         try clear c7
         try clear c8
         try clear c8b0
         try clear c9
         try clear c9b0
         try clear c10
         try clear c10b0
         try clear p10
         try clear q10
         try clear hx10
         try clear c11
         try clear c11b0
         try clear c12
         try clear c12b0
         try clear c12b1
         try clear c14
         try clear c15
         try clear c19
         try clear c20
         try clear hx103_0
         try clear hx104_0
         try clear p1
         try clear p103
         try clear p104
         try clear p2
         try clear p6
         try clear q1
         try clear q103
         try clear q104
         obtain⟨x10_4,x11_4,x12_4,rfl,HA,HK4,HO_10,HO_11,HB⟩:=hrel;cases gk with
         |zero=>exact absurd HA.out (by simp[aC.l2])
         |succ k4=>
          have H:=HA.out;clear HA;simp only[aC.l2] at H;by_cases c23:x12_4 > 0
          ·rw[if_pos c23] at H
           have c23b0:decide (0 < x12_4)=true:=zFq c23;clear c23;have H':=zA H;clear H;go_wp2;repeat(go_quiet (fail);try go_wp2)
           go_loopg[17,18] k4 (fun kq v17 v18 w'=> ∃ (x17_5:Int) (x18_5:Int),v17= .int .i64 x17_5∧v18= .int .i64 x18_5∧Aside0 (aC.l3 kq l1 x10_4 x11_4 x12_4 x17_5 x18_5=some (r1,r2))∧Aside0 (kq≤k4)∧Aside0 (Kd.R (Kd.int .i64) 3 w' w.heap.size (fun k_=>some k_≠(u11:Value).ownBlock) u10 x10_4)∧Aside0 (Kd.R (Kd.int .i64) 3 w' w.heap.size (fun k_=>some k_≠(u10:Value).ownBlock) u11 x11_4)∧Aside0 (Below w.heap.size w w'))
           case atStart=>exact⟨(0),(0),qF_,qF_,H',⟨Nat.le_refl _⟩,⟨qR_ HO_10.out⟩,⟨qR_ HO_11.out⟩,⟨qB⟩⟩
           case round=>
            clear H';try clear c1
            try clear p1
            try clear q1
            try clear hx1
            try clear c2
            try clear p2
            try clear c4
            try clear c4b0
            try clear c4b1
            try clear c5
            try clear c6
            try clear c6b0
            try clear p6
            try clear c7
            try clear c8
            try clear c8b0
            try clear c9
            try clear c9b0
            try clear c10
            try clear c10b0
            try clear p10
            try clear q10
            try clear hx10
            try clear c11
            try clear c11b0
            try clear c12
            try clear c12b0
            try clear c12b1
            try clear c14
            try clear c15
            try clear c19
            try clear c20
            try clear c23
            try clear c23b0
            try clear hx103_0
            try clear hx104_0
            try clear p1
            try clear p10
            try clear p103
            try clear p104
            try clear p2
            try clear p6
            try clear q1
            try clear q10
            try clear q103
            try clear q104
            obtain⟨x17_5,x18_5,rfl,rfl,HA,HK5,HO_10,HO_11,HB⟩:=hrel;cases gk with
            |zero=>exact absurd HA.out (by simp[aC.l3])
            |succ k5=>
             have H:=HA.out;clear HA;simp only[aC.l3] at H;by_cases c24:x18_5 < (l1.length:Int)
             ·rw[if_pos c24] at H
              have c24b0:=zFq c24;clear c24;by_cases c25:0≤x18_5
              ·rw[if_pos c25] at H
               have c25b0:=zFq c25;clear c25;by_cases c26:x18_5 < (x11_4.length:Int)
               ·rw[if_pos c26] at H
                have c26b0:=zFq c26;clear c26;by_cases c27:0≤x17_5
                ·rw[if_pos c27] at H
                 have c27b0:=zFq c27;clear c27;by_cases c28:x17_5 < (x11_4.length:Int)
                 ·rw[if_pos c28] at H
                  have c28b0:=zFq c28;clear c28;by_cases c29:(rd x11_4 x18_5) > (rd x11_4 x17_5)
                  ·rw[if_pos c29] at H
                   have c29b0:decide ((rd x11_4 x17_5) < (rd x11_4 x18_5))=true:=zFq c29;clear c29;have H':=zA H;clear H;obtain⟨Ao30,co30,eo30⟩:=Kd.R_slice HO_11.out;subst eo30;have p121:0≤(x18_5:Int):=qO_;have q121:x18_5 < (x11_4.length:Int):=qO_;obtain⟨ad121,e121,hx121_0⟩:=Kd.at_int (Kd.R_reads' HO_11.out).2.2 x18_5 p121 q121;cases e121
                   replace p121:=eq_true p121;replace q121:=eq_true q121;have p122:0≤(x17_5:Int):=qO_;have q122:x17_5 < (x11_4.length:Int):=qO_;obtain⟨ad122,e122,hx122_0⟩:=Kd.at_int (Kd.R_reads' HO_11.out).2.2 x17_5 p122 q122;obtain rfl:ad121=ad122:=(by injection e122)
                   replace p122:=eq_true p122;replace q122:=eq_true q122;go_wp2;repeat(go_quiet (fail);try go_wp2)
                   go_roundg k5
                   case measure=>have:=HJ4.out;have:=HK2.out;have:=HK3.out;have:=HK4.out;have:=HK5.out;omega
                   case rel=>exact⟨(x18_5),(wrap64 (x18_5+1)),qF_,qF_,H',⟨by have:=HJ4.out;have:=HK2.out;have:=HK3.out;have:=HK4.out;have:=HK5.out;omega⟩,⟨qR_ HO_10.out⟩,⟨qR_ HO_11.out⟩,⟨qB⟩⟩
                  rw[if_neg c29] at H;have c29b0:decide ((rd x11_4 x17_5) < (rd x11_4 x18_5))=false:=zGq c29;clear c29;have H':=zA H;clear H;obtain⟨Ao31,co31,eo31⟩:=Kd.R_slice HO_11.out;subst eo31;have p121:0≤(x18_5:Int):=qO_;have q121:x18_5 < (x11_4.length:Int):=qO_;obtain⟨ad121,e121,hx121_0⟩:=Kd.at_int (Kd.R_reads' HO_11.out).2.2 x18_5 p121 q121;cases e121
                  replace p121:=eq_true p121;replace q121:=eq_true q121;have p122:0≤(x17_5:Int):=qO_;have q122:x17_5 < (x11_4.length:Int):=qO_;obtain⟨ad122,e122,hx122_0⟩:=Kd.at_int (Kd.R_reads' HO_11.out).2.2 x17_5 p122 q122;obtain rfl:ad121=ad122:=(by injection e122)
                  replace p122:=eq_true p122;replace q122:=eq_true q122;go_wp2;repeat(go_quiet (fail);try go_wp2)
                  go_roundg k5
                  case measure=>have:=HJ4.out;have:=HK2.out;have:=HK3.out;have:=HK4.out;have:=HK5.out;omega
                  case rel=>exact⟨(x17_5),(wrap64 (x18_5+1)),qF_,qF_,H',⟨by have:=HJ4.out;have:=HK2.out;have:=HK3.out;have:=HK4.out;have:=HK5.out;omega⟩,⟨qR_ HO_10.out⟩,⟨qR_ HO_11.out⟩,⟨qB⟩⟩
                 rw[if_neg c28] at H;exact absurd H (by simp)
                rw[if_neg c27] at H;exact absurd H (by simp)
               rw[if_neg c26] at H;exact absurd H (by simp)
              rw[if_neg c25] at H;exact absurd H (by simp)
             rw[if_neg c24] at H;have c24b0:=zGq c24;clear c24;by_cases c32:0≤x17_5
             ·rw[if_pos c32] at H
              have c32b0:=zFq c32;clear c32;by_cases c33:x17_5 < (x10_4.length:Int)
              ·rw[if_pos c33] at H
               have c33b0:=zFq c33;clear c33;obtain⟨y124,hy124⟩: ∃ y_:List Int,y_=(x10_4.set (x17_5:Int).toNat (wrap64 ((rd x10_4 x17_5)+1))):=⟨_,rfl⟩
               replace H:(if x17_5 < (x11_4.length:Int)then(aC.l2 k5 l1 y124 (x11_4.set (x17_5:Int).toNat (-1)) (wrap64 (x12_4 - 1)))else(none))=some (r1,r2):=by first|(rw[hy124];with_reducible exact H)|(have H2_:=(Option.bind_some _ _).symm.trans H;rw[hy124];with_reducible exact H2_)|(have H2_:=(Option.bind_some _ _).symm.trans H;with_reducible exact H2_)|with_reducible exact H|(rw[hy124];exact H)|exact H
               have Ny124:=zA hy124;clear hy124;by_cases c35:x17_5 < (x11_4.length:Int)
               ·rw[if_pos c35] at H
                have c35b0:=zFq c35;clear c35;obtain⟨y125,hy125⟩: ∃ y_:List Int,y_=(x11_4.set (x17_5:Int).toNat (-1)):=⟨_,rfl⟩
                replace H:(aC.l2 k5 l1 y124 y125 (wrap64 (x12_4 - 1)))=some (r1,r2):=by first|(rw[hy125];with_reducible exact H)|(have H2_:=(Option.bind_some _ _).symm.trans H;rw[hy125];with_reducible exact H2_)|(have H2_:=(Option.bind_some _ _).symm.trans H;with_reducible exact H2_)|with_reducible exact H|(rw[hy125];exact H)|exact H
                have Ny125:=zA hy125;clear hy125;have H':=zA H;clear H;obtain⟨Ao37,co37,eo37⟩:=Kd.R_slice HO_10.out;subst eo37;have p123:0≤(x17_5:Int):=qO_;have q123:x17_5 < (x10_4.length:Int):=qO_;obtain⟨ad123,e123,hx123_0⟩:=Kd.at_int (Kd.R_reads' HO_10.out).2.2 x17_5 p123 q123;cases e123
                replace p123:=eq_true p123;replace q123:=eq_true q123;have p34:0≤(x17_5:Int):=qO_;have q34:(x17_5:Int) < ((x10_4.length:Int):Int):=qO_;obtain⟨go34,co34,eo34,gb34,gl34,cl34,HG34⟩:=Kd.R_form HO_10.out (by omega);(first|cases eo34|(injection eo34 with ea_ en_ ec_;(first|subst ea_|(injection ea_ with ea_;subst ea_));subst ec_;clear en_))
                have GB34:=zA gb34;have GG34:=zA HG34;clear gb34 gl34 HG34;(first|simp only[add_plain] at hx123_0|skip)
                obtain⟨hx34_0,hf34_0⟩:=Kd.R_celln 0 HO_10.out (x17_5:Int) p34 q34;replace p34:=eq_true p34;replace q34:=eq_true q34;have HP38:=Kd.R_putg HO_10.out (x17_5:Int) (wrap64 ((rd x10_4 x17_5)+1));go_wp2_with (first|((with_reducible refine gate_store (t:=3) (p:=103) rfl ?_);(try(rw[drewN_self wr];generalize hq_:World.drewN wr _=wr;replace HO_10:=zA (Kd.R_at hq_ HO_10.out);replace HO_11:=zA (Kd.R_at hq_ HO_11.out);replace HB:=zA (below_at hq_ HB.out);clear hq_;(try(have HP38:=Kd.R_putg HO_10.out (x17_5:Int) (wrap64 ((rd x10_4 x17_5)+1))))));refine store_event (t:=3) (p:=103) (v:=?vo_w39) (w1:=(wr.setCell ⟨go34,(x17_5:Int).toNat,none⟩ (.int .i64 (wrap64 ((rd x10_4 x17_5)+1))))) ?hg ?ho ?hn ?hr ?_;(case ho=>rfl);(case hg=>rfl);(case hn=>rfl);(case hr=>first|(go_simp;done)|(go_simp;rfl));intro w39 hw;have hg:wr.grownBy w39 (some go34):=(by rw[hw];exact HP38.2);have hp_:Kd.R (Kd.int .i64) 3 w39 w.heap.size (fun k_=>some k_≠(u11:Value).ownBlock) (.slice (some ⟨go34,0,none⟩) x10_4.length co37) y124:=(by rw[hw,Ny124.out];exact HP38.1);clear HP38;replace HO_10:=zA (hp_);replace HO_11:=zA (Kd.R_after (v:=(.slice (some ⟨go34,0,none⟩) x10_4.length co37)) (v1:=(.slice (some ⟨go34,0,none⟩) x10_4.length co37)) (ok:=(fun _=>True)) (by(with_reducible repeat(first|apply Kd.R_alloc|apply Kd.R_drewN|apply Kd.R_drew));exact Kd.R_mono HO_11.out (fun _ hk=> ⟨trivial,hk⟩)) hg (.inl rfl));replace HB:=zA ((by rw[hw];exact zE (HB.out) GB34.out:Below w.heap.size w w39));clear hg hw hp_;have p36:0≤(x17_5:Int):=qO_;have q36:(x17_5:Int) < ((x11_4.length:Int):Int):=qO_;obtain⟨go36,co36,eo36,gb36,gl36,cl36,HG36⟩:=Kd.R_form HO_11.out (by omega);(first|cases eo36|(injection eo36 with ea_ en_ ec_;(first|subst ea_|(injection ea_ with ea_;subst ea_));subst ec_;clear en_));have GB36:=zA gb36;have GG36:=zA HG36;clear gb36 gl36 HG36;obtain⟨hx36_0,hf36_0⟩:=Kd.R_celln 0 HO_11.out (x17_5:Int) p36 q36;replace p36:=eq_true p36;replace q36:=eq_true q36;have n_:=zA (Kd.R_mono (ok':=(fun k_=>some k_≠(.slice (some ⟨go34,0,none⟩) x10_4.length co37:Value).ownBlock)) HO_11.out (fun k_ hk=>hk.2));clear HO_11;have HO_11:=n_;clear n_;obtain⟨hy40_,hz40_⟩:=Kd.R_celln 0 HO_11.out (x17_5:Int) (qO_) (qO_);have HP40:=Kd.R_putg HO_11.out (x17_5:Int) (-1))|((with_reducible refine gate_store (t:=3) (p:=106) rfl ?_);(try(rw[drewN_self w39];generalize hq_:World.drewN w39 _=w39;replace HO_10:=zA (Kd.R_at hq_ HO_10.out);replace HO_11:=zA (Kd.R_at hq_ HO_11.out);replace HB:=zA (below_at hq_ HB.out);clear hq_;(try(have n_:=zA (Kd.R_mono (ok':=(fun k_=>some k_≠(.slice (some ⟨go34,0,none⟩) x10_4.length co37:Value).ownBlock)) HO_11.out (fun k_ hk=>hk.2));clear HO_11;have HO_11:=n_;clear n_));(try(obtain⟨hy40_,hz40_⟩:=Kd.R_celln 0 HO_11.out (x17_5:Int) (qO_) (qO_)));(try(have HP40:=Kd.R_putg HO_11.out (x17_5:Int) (-1)))));refine store_event (t:=3) (p:=106) (v:=?vo_w41) (w1:=(w39.setCell ⟨go36,(x17_5:Int).toNat,none⟩ (.int .i64 (-1)))) ?hg ?ho ?hn ?hr ?_;(case ho=>rfl);(case hg=>rfl);(case hn=>rfl);(case hr=>first|(go_simp;done)|(go_simp;rfl));intro w41 hw;have hg:w39.grownBy w41 (some go36):=(by rw[hw];exact HP40.2);have hp_:Kd.R (Kd.int .i64) 3 w41 w.heap.size (fun k_=>some k_≠(.slice (some ⟨go34,0,none⟩) x10_4.length co37:Value).ownBlock) (.slice (some ⟨go36,0,none⟩) x11_4.length co36) y125:=(by rw[hw,Ny125.out];exact HP40.1);clear HP40;replace HO_10:=zA (Kd.R_after (v:=(.slice (some ⟨go36,0,none⟩) x11_4.length co36)) (v1:=(.slice (some ⟨go36,0,none⟩) x11_4.length co36)) (ok:=(fun _=>True)) (by(with_reducible repeat(first|apply Kd.R_alloc|apply Kd.R_drewN|apply Kd.R_drew));exact Kd.R_mono HO_10.out (fun _ hk=> ⟨trivial,hk⟩)) hg (.inl rfl));replace HO_11:=zA (hp_);replace HB:=zA ((by rw[hw];exact zE (HB.out) GB36.out:Below w.heap.size w w41));clear hg hw hp_))
                repeat(go_quiet (first|((with_reducible refine gate_store (t:=3) (p:=103) rfl ?_);(try(rw[drewN_self wr];generalize hq_:World.drewN wr _=wr;replace HO_10:=zA (Kd.R_at hq_ HO_10.out);replace HO_11:=zA (Kd.R_at hq_ HO_11.out);replace HB:=zA (below_at hq_ HB.out);clear hq_;(try(have HP38:=Kd.R_putg HO_10.out (x17_5:Int) (wrap64 ((rd x10_4 x17_5)+1))))));refine store_event (t:=3) (p:=103) (v:=?vo_w39) (w1:=(wr.setCell ⟨go34,(x17_5:Int).toNat,none⟩ (.int .i64 (wrap64 ((rd x10_4 x17_5)+1))))) ?hg ?ho ?hn ?hr ?_;(case ho=>rfl);(case hg=>rfl);(case hn=>rfl);(case hr=>first|(go_simp;done)|(go_simp;rfl));intro w39 hw;have hg:wr.grownBy w39 (some go34):=(by rw[hw];exact HP38.2);have hp_:Kd.R (Kd.int .i64) 3 w39 w.heap.size (fun k_=>some k_≠(u11:Value).ownBlock) (.slice (some ⟨go34,0,none⟩) x10_4.length co37) y124:=(by rw[hw,Ny124.out];exact HP38.1);clear HP38;replace HO_10:=zA (hp_);replace HO_11:=zA (Kd.R_after (v:=(.slice (some ⟨go34,0,none⟩) x10_4.length co37)) (v1:=(.slice (some ⟨go34,0,none⟩) x10_4.length co37)) (ok:=(fun _=>True)) (by(with_reducible repeat(first|apply Kd.R_alloc|apply Kd.R_drewN|apply Kd.R_drew));exact Kd.R_mono HO_11.out (fun _ hk=> ⟨trivial,hk⟩)) hg (.inl rfl));replace HB:=zA ((by rw[hw];exact zE (HB.out) GB34.out:Below w.heap.size w w39));clear hg hw hp_;have p36:0≤(x17_5:Int):=qO_;have q36:(x17_5:Int) < ((x11_4.length:Int):Int):=qO_;obtain⟨go36,co36,eo36,gb36,gl36,cl36,HG36⟩:=Kd.R_form HO_11.out (by omega);(first|cases eo36|(injection eo36 with ea_ en_ ec_;(first|subst ea_|(injection ea_ with ea_;subst ea_));subst ec_;clear en_));have GB36:=zA gb36;have GG36:=zA HG36;clear gb36 gl36 HG36;obtain⟨hx36_0,hf36_0⟩:=Kd.R_celln 0 HO_11.out (x17_5:Int) p36 q36;replace p36:=eq_true p36;replace q36:=eq_true q36;have n_:=zA (Kd.R_mono (ok':=(fun k_=>some k_≠(.slice (some ⟨go34,0,none⟩) x10_4.length co37:Value).ownBlock)) HO_11.out (fun k_ hk=>hk.2));clear HO_11;have HO_11:=n_;clear n_;obtain⟨hy40_,hz40_⟩:=Kd.R_celln 0 HO_11.out (x17_5:Int) (qO_) (qO_);have HP40:=Kd.R_putg HO_11.out (x17_5:Int) (-1))|((with_reducible refine gate_store (t:=3) (p:=106) rfl ?_);(try(rw[drewN_self w39];generalize hq_:World.drewN w39 _=w39;replace HO_10:=zA (Kd.R_at hq_ HO_10.out);replace HO_11:=zA (Kd.R_at hq_ HO_11.out);replace HB:=zA (below_at hq_ HB.out);clear hq_;(try(have n_:=zA (Kd.R_mono (ok':=(fun k_=>some k_≠(.slice (some ⟨go34,0,none⟩) x10_4.length co37:Value).ownBlock)) HO_11.out (fun k_ hk=>hk.2));clear HO_11;have HO_11:=n_;clear n_));(try(obtain⟨hy40_,hz40_⟩:=Kd.R_celln 0 HO_11.out (x17_5:Int) (qO_) (qO_)));(try(have HP40:=Kd.R_putg HO_11.out (x17_5:Int) (-1)))));refine store_event (t:=3) (p:=106) (v:=?vo_w41) (w1:=(w39.setCell ⟨go36,(x17_5:Int).toNat,none⟩ (.int .i64 (-1)))) ?hg ?ho ?hn ?hr ?_;(case ho=>rfl);(case hg=>rfl);(case hn=>rfl);(case hr=>first|(go_simp;done)|(go_simp;rfl));intro w41 hw;have hg:w39.grownBy w41 (some go36):=(by rw[hw];exact HP40.2);have hp_:Kd.R (Kd.int .i64) 3 w41 w.heap.size (fun k_=>some k_≠(.slice (some ⟨go34,0,none⟩) x10_4.length co37:Value).ownBlock) (.slice (some ⟨go36,0,none⟩) x11_4.length co36) y125:=(by rw[hw,Ny125.out];exact HP40.1);clear HP40;replace HO_10:=zA (Kd.R_after (v:=(.slice (some ⟨go36,0,none⟩) x11_4.length co36)) (v1:=(.slice (some ⟨go36,0,none⟩) x11_4.length co36)) (ok:=(fun _=>True)) (by(with_reducible repeat(first|apply Kd.R_alloc|apply Kd.R_drewN|apply Kd.R_drew));exact Kd.R_mono HO_10.out (fun _ hk=> ⟨trivial,hk⟩)) hg (.inl rfl));replace HO_11:=zA (hp_);replace HB:=zA ((by rw[hw];exact zE (HB.out) GB36.out:Below w.heap.size w w41));clear hg hw hp_));try go_wp2_with (first|((with_reducible refine gate_store (t:=3) (p:=103) rfl ?_);(try(rw[drewN_self wr];generalize hq_:World.drewN wr _=wr;replace HO_10:=zA (Kd.R_at hq_ HO_10.out);replace HO_11:=zA (Kd.R_at hq_ HO_11.out);replace HB:=zA (below_at hq_ HB.out);clear hq_;(try(have HP38:=Kd.R_putg HO_10.out (x17_5:Int) (wrap64 ((rd x10_4 x17_5)+1))))));refine store_event (t:=3) (p:=103) (v:=?vo_w39) (w1:=(wr.setCell ⟨go34,(x17_5:Int).toNat,none⟩ (.int .i64 (wrap64 ((rd x10_4 x17_5)+1))))) ?hg ?ho ?hn ?hr ?_;(case ho=>rfl);(case hg=>rfl);(case hn=>rfl);(case hr=>first|(go_simp;done)|(go_simp;rfl));intro w39 hw;have hg:wr.grownBy w39 (some go34):=(by rw[hw];exact HP38.2);have hp_:Kd.R (Kd.int .i64) 3 w39 w.heap.size (fun k_=>some k_≠(u11:Value).ownBlock) (.slice (some ⟨go34,0,none⟩) x10_4.length co37) y124:=(by rw[hw,Ny124.out];exact HP38.1);clear HP38;replace HO_10:=zA (hp_);replace HO_11:=zA (Kd.R_after (v:=(.slice (some ⟨go34,0,none⟩) x10_4.length co37)) (v1:=(.slice (some ⟨go34,0,none⟩) x10_4.length co37)) (ok:=(fun _=>True)) (by(with_reducible repeat(first|apply Kd.R_alloc|apply Kd.R_drewN|apply Kd.R_drew));exact Kd.R_mono HO_11.out (fun _ hk=> ⟨trivial,hk⟩)) hg (.inl rfl));replace HB:=zA ((by rw[hw];exact zE (HB.out) GB34.out:Below w.heap.size w w39));clear hg hw hp_;have p36:0≤(x17_5:Int):=qO_;have q36:(x17_5:Int) < ((x11_4.length:Int):Int):=qO_;obtain⟨go36,co36,eo36,gb36,gl36,cl36,HG36⟩:=Kd.R_form HO_11.out (by omega);(first|cases eo36|(injection eo36 with ea_ en_ ec_;(first|subst ea_|(injection ea_ with ea_;subst ea_));subst ec_;clear en_));have GB36:=zA gb36;have GG36:=zA HG36;clear gb36 gl36 HG36;obtain⟨hx36_0,hf36_0⟩:=Kd.R_celln 0 HO_11.out (x17_5:Int) p36 q36;replace p36:=eq_true p36;replace q36:=eq_true q36;have n_:=zA (Kd.R_mono (ok':=(fun k_=>some k_≠(.slice (some ⟨go34,0,none⟩) x10_4.length co37:Value).ownBlock)) HO_11.out (fun k_ hk=>hk.2));clear HO_11;have HO_11:=n_;clear n_;obtain⟨hy40_,hz40_⟩:=Kd.R_celln 0 HO_11.out (x17_5:Int) (qO_) (qO_);have HP40:=Kd.R_putg HO_11.out (x17_5:Int) (-1))|((with_reducible refine gate_store (t:=3) (p:=106) rfl ?_);(try(rw[drewN_self w39];generalize hq_:World.drewN w39 _=w39;replace HO_10:=zA (Kd.R_at hq_ HO_10.out);replace HO_11:=zA (Kd.R_at hq_ HO_11.out);replace HB:=zA (below_at hq_ HB.out);clear hq_;(try(have n_:=zA (Kd.R_mono (ok':=(fun k_=>some k_≠(.slice (some ⟨go34,0,none⟩) x10_4.length co37:Value).ownBlock)) HO_11.out (fun k_ hk=>hk.2));clear HO_11;have HO_11:=n_;clear n_));(try(obtain⟨hy40_,hz40_⟩:=Kd.R_celln 0 HO_11.out (x17_5:Int) (qO_) (qO_)));(try(have HP40:=Kd.R_putg HO_11.out (x17_5:Int) (-1)))));refine store_event (t:=3) (p:=106) (v:=?vo_w41) (w1:=(w39.setCell ⟨go36,(x17_5:Int).toNat,none⟩ (.int .i64 (-1)))) ?hg ?ho ?hn ?hr ?_;(case ho=>rfl);(case hg=>rfl);(case hn=>rfl);(case hr=>first|(go_simp;done)|(go_simp;rfl));intro w41 hw;have hg:w39.grownBy w41 (some go36):=(by rw[hw];exact HP40.2);have hp_:Kd.R (Kd.int .i64) 3 w41 w.heap.size (fun k_=>some k_≠(.slice (some ⟨go34,0,none⟩) x10_4.length co37:Value).ownBlock) (.slice (some ⟨go36,0,none⟩) x11_4.length co36) y125:=(by rw[hw,Ny125.out];exact HP40.1);clear HP40;replace HO_10:=zA (Kd.R_after (v:=(.slice (some ⟨go36,0,none⟩) x11_4.length co36)) (v1:=(.slice (some ⟨go36,0,none⟩) x11_4.length co36)) (ok:=(fun _=>True)) (by(with_reducible repeat(first|apply Kd.R_alloc|apply Kd.R_drewN|apply Kd.R_drew));exact Kd.R_mono HO_10.out (fun _ hk=> ⟨trivial,hk⟩)) hg (.inl rfl));replace HO_11:=zA (hp_);replace HB:=zA ((by rw[hw];exact zE (HB.out) GB36.out:Below w.heap.size w w41));clear hg hw hp_)))
                go_roundg k5
                case measure=>have:=HJ4.out;have:=HK2.out;have:=HK3.out;have:=HK4.out;have:=HK5.out;omega
                case rel=>exact⟨(y124),(y125),(wrap64 (x12_4 - 1)),qF_,H',⟨by have:=HJ4.out;have:=HK2.out;have:=HK3.out;have:=HK4.out;have:=HK5.out;omega⟩,⟨by(with_reducible repeat(first|apply Kd.R_alloc|apply Kd.R_drewN|apply Kd.R_drew));exact Kd.R_mono HO_10.out (fun _ hk=>hk.2)⟩,⟨qR_ HO_11.out⟩,⟨qB⟩⟩
               rw[if_neg c35] at H;exact absurd H (by simp)
              rw[if_neg c33] at H;exact absurd H (by simp)
             rw[if_neg c32] at H;exact absurd H (by simp)
          rw[if_neg c23] at H;have c23b0:decide (0 < x12_4)=false:=zGq c23;clear c23;simp only[zNq,zOq] at H;obtain⟨rfl,rfl⟩:=H;go_wp2;repeat(go_quiet (fail);try go_wp2)
          go_ret2;exact⟨_,qE,by(with_reducible repeat(first|apply Kd.R_alloc|apply Kd.R_drewN|apply Kd.R_drew));exact Kd.R_mono HO_10.out (fun _ hk=>trivial),qB⟩
 rw[if_neg c4] at H
 have c4b0:(t102==0)=false:=beq_eq_false_iff_ne.mpr c4
 have c4b1:(t102 != 0)=true:=bne_iff_ne.mpr c4
 simp only[zNq,zOq] at H
 obtain⟨rfl,rfl⟩:=H
 go_enter Try.func52,Try.ntmps52
 go_wp2_with (first|(go_at_call 58;(with_reducible refine(aG.calls k _ _ l1 t101 t102 _ ?side1 ?side2 A3.out).mono ?_);(case side1=>repeat(first|exact HR1.out|(with_reducible refine Kd.C_alloc ?_ _)|(with_reducible refine Kd.C_drewN ?_ _)|(with_reducible refine Kd.C_drew ?_)));(case side2=>exact HC1.out);rintro e w' ⟨rfl,⟨nd,rfl⟩⟩;(try first|exact⟨rfl,_,World.drewN_drewN _ _ _⟩|exact⟨rfl,_,Eq.trans (World.drewN_drewN _ _ _) (congrArg (World.drewN _) (Nat.add_assoc _ _ _))⟩)))
 repeat(go_quiet (first|(go_at_call 58;(with_reducible refine(aG.calls k _ _ l1 t101 t102 _ ?side1 ?side2 A3.out).mono ?_);(case side1=>repeat(first|exact HR1.out|(with_reducible refine Kd.C_alloc ?_ _)|(with_reducible refine Kd.C_drewN ?_ _)|(with_reducible refine Kd.C_drew ?_)));(case side2=>exact HC1.out);rintro e w' ⟨rfl,⟨nd,rfl⟩⟩;(try first|exact⟨rfl,_,World.drewN_drewN _ _ _⟩|exact⟨rfl,_,Eq.trans (World.drewN_drewN _ _ _) (congrArg (World.drewN _) (Nat.add_assoc _ _ _))⟩)));try go_wp2_with (first|(go_at_call 58;(with_reducible refine(aG.calls k _ _ l1 t101 t102 _ ?side1 ?side2 A3.out).mono ?_);(case side1=>repeat(first|exact HR1.out|(with_reducible refine Kd.C_alloc ?_ _)|(with_reducible refine Kd.C_drewN ?_ _)|(with_reducible refine Kd.C_drew ?_)));(case side2=>exact HC1.out);rintro e w' ⟨rfl,⟨nd,rfl⟩⟩;(try first|exact⟨rfl,_,World.drewN_drewN _ _ _⟩|exact⟨rfl,_,Eq.trans (World.drewN_drewN _ _ _) (congrArg (World.drewN _) (Nat.add_assoc _ _ _))⟩))))
 go_ret2
 exact⟨_,qE,qN,qB⟩
mutual
def aJ.j0:Nat→Int→Bool→Option (Int)
  |0,_,_=>none
  |k+1,x0,x16=>if x16=true then(some 1)else(if x0≥48 then(aJ.j1 k x0 (decide (x0≤57)))else(aJ.j1 k x0 false))
def aJ.j1:Nat→Int→Bool→Option (Int)
  |0,_,_=>none
  |k+1,x0,x22=>if x22=true then(some 2)else(if x0=45 then(some 3)else(some 0))
end
def aJ.f (k:Nat) (a0:Int):Option (Int):=if a0≥65 then(if a0≤90 then(aJ.j0 k a0 true)else(if a0≥97 then(aJ.j0 k a0 (decide (a0≤122)))else(aJ.j0 k a0 false)))else(if a0≥97 then(aJ.j0 k a0 (decide (a0≤122)))else(aJ.j0 k a0 false))
theorem aJ.mono_l: ∀ k,(∀ y0 y1,LeO (aJ.j0 k y0 y1) (aJ.j0 (k+1) y0 y1))∧(∀ y0 y1,LeO (aJ.j1 k y0 y1) (aJ.j1 (k+1) y0 y1))
  |0=> ⟨fun _ _ r h=>by simp[aJ.j0] at h,fun _ _ r h=>by simp[aJ.j1] at h⟩
  |k+1=>by
    obtain⟨ih0,ih1⟩:=aJ.mono_l k
    refine⟨?_,?_⟩
    · intro y0 y1
      unfold aJ.j0
      repeat' (with_reducible first|exact ih0 _ _|exact ih1 _ _|exact LeO.refl _|exact LeO.none _|refine LeO.ite ?_ ?_|refine LeO.bind ?_ (fun _=>?_))
    intro y0 y1
    unfold aJ.j1
    repeat' (with_reducible first|exact ih0 _ _|exact ih1 _ _|exact LeO.refl _|exact LeO.none _|refine LeO.ite ?_ ?_|refine LeO.bind ?_ (fun _=>?_))
theorem aJ.mono: ∀ a0 k,LeO (aJ.f k a0) (aJ.f (k+1) a0):=by
  intro a0 k
  obtain⟨ih0,ih1⟩:=aJ.mono_l k
  unfold aJ.f
  repeat' (with_reducible first|exact ih0 _ _|exact ih1 _ _|exact LeO.refl _|exact LeO.none _|refine LeO.ite ?_ ?_|refine LeO.bind ?_ (fun _=>?_))
theorem aJ.calls (k:Nat) (a0:Int) (r:Int) (w:World) (h:aJ.f k a0=some r):
  Calls Try.prog 161 #[.int .i32 a0] w fun e w'=>e= .returned (.int .i64 r)∧Drawn0 w w':=by
 have H:(if a0≥65 then(if a0≤90 then(aJ.j0 k a0 true)else(if a0≥97 then(aJ.j0 k a0 (decide (a0≤122)))else(aJ.j0 k a0 false)))else(if a0≥97 then(aJ.j0 k a0 (decide (a0≤122)))else(aJ.j0 k a0 false)))=some r:=h
 clear h
 have HC2:=zA H
 clear H
 go_enter Try.func161,Try.ntmps161
 go_upto_region 1 with(fail)
 go_cut[16] (fun v16 wc=> ∃ (kq:Nat) (x16_1:Bool),v16= .bool x16_1∧Aside0 (aJ.j0 kq a0 x16_1=some r)∧Aside0 (kq≤k)∧Drawn0 w wc)
 case first=>
  have H:=HC2.out;clear HC2;by_cases c3:a0≥65
  ·rw[if_pos c3] at H
   have c3b0:decide (65≤a0)=true:=zFq c3;clear c3;(first|rw[c3b0] |(simp only[i64_w,i32_w];rw[c3b0])|skip)
   by_cases c4:a0≤90
   ·rw[if_pos c4] at H
    have c4b0:=zFq c4;clear c4;have H':=zA H;clear H;go_wp2;go_meet
    case rel=>exact⟨_,(true),qF_,H',⟨by first|omega|exact Nat.le_refl _⟩,by repeat(first|exact Drawn0.refl _|apply Drawn0.step)⟩
   rw[if_neg c4] at H;have c4b0:=zGq c4;clear c4;by_cases c5:a0≥97
   ·rw[if_pos c5] at H
    have c5b0:decide (97≤a0)=true:=zFq c5;clear c5;have H':=zA H;clear H;go_wp2;go_meet
    case rel=>exact⟨_,(decide (a0≤122)),qF_,H',⟨by first|omega|exact Nat.le_refl _⟩,by repeat(first|exact Drawn0.refl _|apply Drawn0.step)⟩
   rw[if_neg c5] at H;have c5b0:decide (97≤a0)=false:=zGq c5;clear c5;have H':=zA H;clear H;go_wp2;go_meet
   case rel=>exact⟨_,(false),qF_,H',⟨by first|omega|exact Nat.le_refl _⟩,by repeat(first|exact Drawn0.refl _|apply Drawn0.step)⟩
  rw[if_neg c3] at H;have c3b0:decide (65≤a0)=false:=zGq c3;clear c3;(first|rw[c3b0] |(simp only[i64_w,i32_w];rw[c3b0])|skip)
  by_cases c6:a0≥97
  ·rw[if_pos c6] at H
   have c6b0:decide (97≤a0)=true:=zFq c6;clear c6;have H':=zA H;clear H;go_wp2;go_meet
   case rel=>exact⟨_,(decide (a0≤122)),qF_,H',⟨by first|omega|exact Nat.le_refl _⟩,by repeat(first|exact Drawn0.refl _|apply Drawn0.step)⟩
  rw[if_neg c6] at H;have c6b0:decide (97≤a0)=false:=zGq c6;clear c6;have H':=zA H;clear H;go_wp2;go_meet
  case rel=>exact⟨_,(false),qF_,H',⟨by first|omega|exact Nat.le_refl _⟩,by repeat(first|exact Drawn0.refl _|apply Drawn0.step)⟩
 case rest=>
  clear HC2;try clear c1
  try clear p2
  try clear c3
  try clear c3b0
  try clear c4
  try clear c4b0
  try clear c5
  try clear c5b0
  try clear c6
  try clear c6b0
  obtain⟨kq,x16_1,rfl,HA,HJ1,⟨mc1,rfl⟩⟩:=hcut;cases kq with
  |zero=>exact absurd HA.out (by simp[aJ.j0])
  |succ kj1=>
   have H:=HA.out;clear HA;simp only[aJ.j0] at H;by_cases c7:x16_1=true
   ·subst c7
    have H1:(some 1)=some r:=by first|(rw[if_pos rfl] at H;exact H)|rfl
    clear H;have H:=H1;clear H1;obtain rfl:=zKq H;go_wp2;go_ret;exact⟨by first|rfl|(simp;done)|(simp[*];done),by repeat(first|exact Drawn0.refl _|apply Drawn0.step)⟩
   replace c7:=Bool.eq_false_iff.mpr c7;subst c7;have H1:(if a0≥48 then(aJ.j1 kj1 a0 (decide (a0≤57)))else(aJ.j1 kj1 a0 false))=some r:=by first|(rw[if_neg (show ¬ (false=true) by decide)] at H;exact H)|rfl
   clear H;have H:=H1;clear H1;have HC8:=zA H;clear H;go_upto_region 3 with(fail)
   go_cut[22] (fun v22 wc=> ∃ (kq:Nat) (x22_7:Bool),v22= .bool x22_7∧Aside0 (aJ.j1 kq a0 x22_7=some r)∧Aside0 (kq≤kj1)∧Drawn0 w wc)
   case first=>
    have H:=HC8.out;clear HC8;by_cases c9:a0≥48
    ·rw[if_pos c9] at H
     have c9b0:decide (48≤a0)=true:=zFq c9;clear c9;(first|rw[c9b0] |(simp only[i64_w,i32_w];rw[c9b0])|skip)
     have H':=zA H;clear H;go_wp2;go_meet
     case rel=>exact⟨_,(decide (a0≤57)),qF_,H',⟨by have:=HJ1.out;first|omega|exact Nat.le_refl _⟩,by repeat(first|exact Drawn0.refl _|apply Drawn0.step)⟩
    rw[if_neg c9] at H;have c9b0:decide (48≤a0)=false:=zGq c9;clear c9;(first|rw[c9b0] |(simp only[i64_w,i32_w];rw[c9b0])|skip)
    have H':=zA H;clear H;go_wp2;go_meet
    case rel=>exact⟨_,(false),qF_,H',⟨by have:=HJ1.out;first|omega|exact Nat.le_refl _⟩,by repeat(first|exact Drawn0.refl _|apply Drawn0.step)⟩
   case rest=>
    clear HC8;try clear c1
    try clear p2
    try clear c3
    try clear c3b0
    try clear c4
    try clear c4b0
    try clear c5
    try clear c5b0
    try clear c6
    try clear c6b0
    try clear c7
    try clear c9
    try clear c9b0
    try clear p2
    obtain⟨kq,x22_7,rfl,HA,HJ7,⟨mc7,rfl⟩⟩:=hcut;cases kq with
    |zero=>exact absurd HA.out (by simp[aJ.j1])
    |succ kj7=>
     have H:=HA.out;clear HA;simp only[aJ.j1] at H;by_cases c10:x22_7=true
     ·subst c10
      have H1:(some 2)=some r:=by first|(rw[if_pos rfl] at H;exact H)|rfl
      clear H;have H:=H1;clear H1;obtain rfl:=zKq H;go_wp2;go_ret;exact⟨by first|rfl|(simp;done)|(simp[*];done),by repeat(first|exact Drawn0.refl _|apply Drawn0.step)⟩
     replace c10:=Bool.eq_false_iff.mpr c10;subst c10;have H1:(if a0=45 then(some 3)else(some 0))=some r:=by first|(rw[if_neg (show ¬ (false=true) by decide)] at H;exact H)|rfl
     clear H;have H:=H1;clear H1;by_cases c11:a0=45
     ·rw[if_pos c11] at H
      have c11b0:(a0==45)=true:=beq_iff_eq.mpr c11;have c11b1:(a0 != 45)=false:=bne_eq_false_iff_eq.mpr c11;clear c11;obtain rfl:=zKq H;go_wp2;go_ret;exact⟨by first|rfl|(simp;done)|(simp[*];done),by repeat(first|exact Drawn0.refl _|apply Drawn0.step)⟩
     rw[if_neg c11] at H;have c11b0:(a0==45)=false:=beq_eq_false_iff_ne.mpr c11;have c11b1:(a0 != 45)=true:=bne_iff_ne.mpr c11;obtain rfl:=zKq H;go_wp2;go_ret;exact⟨by first|rfl|(simp;done)|(simp[*];done),by repeat(first|exact Drawn0.refl _|apply Drawn0.step)⟩
mutual
def aD.j0:Nat→ByteArray→Bool→Option (ByteArray × Int)
  |0,_,_=>none
  |k+1,x0,x27=>if x27=true then(some ((⟨#[]⟩:ByteArray),9))else(aD.l0 k x0 ([] :List Int) 0)
def aD.l0:Nat→ByteArray→List Int→Int→Option (ByteArray × Int)
  |0,_,_,_=>none
  |k+1,x0,x4,x5=>if x5 < (x0.size:Int)then(if 0≤x5 then((aJ.f k (wrap32 (bt x0 x5))).bind fun t101=> (if t101=0 then(aD.j2 k x0 x4 x5 (bt x0 x5) true)else(if(bt x0 x5)=45 then(if 0≤(wrap64 (x5 - 1))then(if(wrap64 (x5 - 1)) < (x0.size:Int)then(aD.j2 k x0 x4 x5 (bt x0 x5) ((bt x0 (wrap64 (x5 - 1)))==45))else(none))else(none))else(aD.j2 k x0 x4 x5 (bt x0 x5) false))))else(none))else(some (strOfNums x4,0))
def aD.j2:Nat→ByteArray→List Int→Int→Int→Bool→Option (ByteArray × Int)
  |0,_,_,_,_,_=>none
  |k+1,x0,x4,x5,x6,x51=>if x51=true then(some ((⟨#[]⟩:ByteArray),9))else(if x6≥97 then(if x6≤122 then(if x4.length < 140737488355328 then(aD.l0 k x0 (x4++ [(x6 - 32) % 256]) (wrap64 (x5+1)))else(none))else(if x4.length < 140737488355328 then(aD.l0 k x0 (x4++ [x6]) (wrap64 (x5+1)))else(none)))else(if x4.length < 140737488355328 then(aD.l0 k x0 (x4++ [x6]) (wrap64 (x5+1)))else(none)))
end
def aD.f (k:Nat) (a0:ByteArray):Option (ByteArray × Int):=if(a0.size:Int)=0 then(aD.j0 k a0 true)else(if(a0.size:Int) > 16 then(aD.j0 k a0 true)else(if 0 < (a0.size:Int)then(if(bt a0 0)=45 then(aD.j0 k a0 true)else(if 0≤(wrap64 ((a0.size:Int) - 1))then(if(wrap64 ((a0.size:Int) - 1)) < (a0.size:Int)then(aD.j0 k a0 ((bt a0 (wrap64 ((a0.size:Int) - 1)))==45))else(none))else(none)))else(none)))
theorem aD.mono_l: ∀ k,(∀ y0 y1,LeO (aD.j0 k y0 y1) (aD.j0 (k+1) y0 y1))∧(∀ y0 y1 y2,LeO (aD.l0 k y0 y1 y2) (aD.l0 (k+1) y0 y1 y2))∧(∀ y0 y1 y2 y3 y4,LeO (aD.j2 k y0 y1 y2 y3 y4) (aD.j2 (k+1) y0 y1 y2 y3 y4))
  |0=> ⟨fun _ _ r h=>by simp[aD.j0] at h,fun _ _ _ r h=>by simp[aD.l0] at h,fun _ _ _ _ _ r h=>by simp[aD.j2] at h⟩
  |k+1=>by
    obtain⟨ih0,ih1,ih2⟩:=aD.mono_l k
    refine⟨?_,?_,?_⟩
    · intro y0 y1
      unfold aD.j0
      repeat' (with_reducible first|exact ih0 _ _|exact ih1 _ _ _|exact ih2 _ _ _ _ _|exact aJ.mono _ _|exact LeO.refl _|exact LeO.none _|refine LeO.ite ?_ ?_|refine LeO.bind ?_ (fun _=>?_))
    · intro y0 y1 y2
      unfold aD.l0
      repeat' (with_reducible first|exact ih0 _ _|exact ih1 _ _ _|exact ih2 _ _ _ _ _|exact aJ.mono _ _|exact LeO.refl _|exact LeO.none _|refine LeO.ite ?_ ?_|refine LeO.bind ?_ (fun _=>?_))
    intro y0 y1 y2 y3 y4
    unfold aD.j2
    repeat' (with_reducible first|exact ih0 _ _|exact ih1 _ _ _|exact ih2 _ _ _ _ _|exact aJ.mono _ _|exact LeO.refl _|exact LeO.none _|refine LeO.ite ?_ ?_|refine LeO.bind ?_ (fun _=>?_))
theorem aD.mono: ∀ a0 k,LeO (aD.f k a0) (aD.f (k+1) a0):=by
  intro a0 k
  obtain⟨ih0,ih1,ih2⟩:=aD.mono_l k
  unfold aD.f
  repeat' (with_reducible first|exact ih0 _ _|exact ih1 _ _ _|exact ih2 _ _ _ _ _|exact aJ.mono _ _|exact LeO.refl _|exact LeO.none _|refine LeO.ite ?_ ?_|refine LeO.bind ?_ (fun _=>?_))
theorem aD.calls (k:Nat) (a0:ByteArray) (r1:ByteArray) (r2:Int) (w:World) (h:aD.f k a0=some (r1,r2)):
  Calls Try.prog 151 #[.string a0] w fun e w'=>e= .returned (.tuple #[.string r1,.int .i64 r2])∧Below w.heap.size w w':=by
 have HB:=zA (Below.refl w.heap.size w)
 have H:(if(a0.size:Int)=0 then(aD.j0 k a0 true)else(if(a0.size:Int) > 16 then(aD.j0 k a0 true)else(if 0 < (a0.size:Int)then(if(bt a0 0)=45 then(aD.j0 k a0 true)else(if 0≤(wrap64 ((a0.size:Int) - 1))then(if(wrap64 ((a0.size:Int) - 1)) < (a0.size:Int)then(aD.j0 k a0 ((bt a0 (wrap64 ((a0.size:Int) - 1)))==45))else(none))else(none)))else(none))))=some (r1,r2):=h
 clear h
 have HC2:=zA H
 clear H
 go_enter Try.func151,Try.ntmps151
 go_upto_region 1 with(fail)
 go_cut[27] (fun v27 wc=> ∃ (kq:Nat) (x27_1:Bool),v27= .bool x27_1∧Aside0 (aD.j0 kq a0 x27_1=some (r1,r2))∧Aside0 (kq≤k)∧Aside0 (Below w.heap.size w wc))
 case first=>
  have H:=HC2.out;clear HC2;by_cases c3:(a0.size:Int)=0
  ·rw[if_pos c3] at H
   have c3b0:((a0.size:Int)==0)=true:=beq_iff_eq.mpr c3;have c3b1:((a0.size:Int) != 0)=false:=bne_eq_false_iff_eq.mpr c3;clear c3;(first|rw[c3b0] |(simp only[i64_w,i32_w];rw[c3b0])|skip)
   have H':=zA H;clear H;go_wp2;go_meet
   case rel=>exact⟨_,(true),qF_,H',⟨by first|omega|exact Nat.le_refl _⟩,⟨qB⟩⟩
  rw[if_neg c3] at H;have c3b0:((a0.size:Int)==0)=false:=beq_eq_false_iff_ne.mpr c3;have c3b1:((a0.size:Int) != 0)=true:=bne_iff_ne.mpr c3;(first|rw[c3b0] |(simp only[i64_w,i32_w];rw[c3b0])|skip)
  by_cases c4:(a0.size:Int) > 16
  ·rw[if_pos c4] at H
   have c4b0:decide (16 < (a0.size:Int))=true:=zFq c4;have c4b1:decide (16 < a0.size)=true:=zFq (by omega);clear c4;have H':=zA H;clear H;go_wp2;go_meet
   case rel=>exact⟨_,(true),qF_,H',⟨by first|omega|exact Nat.le_refl _⟩,⟨qB⟩⟩
  rw[if_neg c4] at H;have c4b0:decide (16 < (a0.size:Int))=false:=zGq c4;have c4b1:decide (16 < a0.size)=false:=zGq (by omega);clear c4;by_cases c5:0 < (a0.size:Int)
  ·rw[if_pos c5] at H
   have c5b0:=zFq c5;have c5b1:decide (0 < a0.size)=true:=zFq (by omega);clear c5;by_cases c7:(bt a0 0)=45
   ·rw[if_pos c7] at H
    have c7b0:((bt a0 0)==45)=true:=beq_iff_eq.mpr c7;have c7b1:((bt a0 0) != 45)=false:=bne_eq_false_iff_eq.mpr c7;clear c7;have H':=zA H;clear H;have p6:0≤(0:Int):=(by omega)
    have q6:0 < a0.size:=(by have:(0:Int) < (a0.size:Int):=qO_;omega)
    have hx6: ∀ h:0 < a0.size,((a0[0]'h).toNat:Int)=bt a0 0:=bt_at a0 0;clear p6;have qi6:(0 < (a0.size:Int))=True:=eq_true (qO_);replace q6:=eq_true q6;go_wp2;go_meet
    case rel=>exact⟨_,(true),qF_,H',⟨by first|omega|exact Nat.le_refl _⟩,⟨qB⟩⟩
   rw[if_neg c7] at H;have c7b0:((bt a0 0)==45)=false:=beq_eq_false_iff_ne.mpr c7;have c7b1:((bt a0 0) != 45)=true:=bne_iff_ne.mpr c7;obtain⟨ji8,hji8⟩: ∃ j_:Int,(wrap64 ((a0.size:Int) - 1))=j_:=⟨_,rfl⟩
   replace H:(if 0≤(ji8)then(if(ji8) < (a0.size:Int)then(aD.j0 k a0 ((bt a0 (ji8))==45))else(none))else(none))=some (r1,r2):=by first|(rw[hji8] at H;exact H)|(simp only[hji8] at H⊢;exact H)
   have hji8w:(IntKind.i64.wrap ((a0.size:Int) - 1))=ji8:=(i64_w _).trans hji8;by_cases c9:0≤(ji8)
   ·rw[if_pos c9] at H
    have c9b0:=zFq c9;clear c9;by_cases c10:(ji8) < (a0.size:Int)
    ·rw[if_pos c10] at H
     have c10b0:=zFq c10;clear c10;have H':=zA H;clear H;have p6:0≤(0:Int):=(by omega)
     have q6:0 < a0.size:=(by have:(0:Int) < (a0.size:Int):=qO_;omega)
     have hx6: ∀ h:0 < a0.size,((a0[0]'h).toNat:Int)=bt a0 0:=bt_at a0 0;clear p6;have qi6:(0 < (a0.size:Int))=True:=eq_true (qO_);replace q6:=eq_true q6;have p11:0≤((ji8):Int):=qO_;have q11:(ji8) < (a0.size:Int):=qO_;have hx11:=bt_at a0 (ji8);replace p11:=eq_true p11;replace q11:=eq_true q11;go_wp2;go_meet
     case rel=>exact⟨_,(((bt a0 (ji8))==45)),(by first|rfl|(simp;done)|(simp only[←hji8] <;> (first|rfl|simp))|(simp[*];done)),H',⟨by first|omega|exact Nat.le_refl _⟩,⟨qB⟩⟩
    rw[if_neg c10] at H;exact absurd H (by simp)
   rw[if_neg c9] at H;exact absurd H (by simp)
  rw[if_neg c5] at H;exact absurd H (by simp)
 case rest=>
  clear HC2;try clear c1
  try clear p1
  try clear q1
  try clear hx1
  try clear p2
  try clear c3
  try clear c3b0
  try clear c3b1
  try clear c4
  try clear c4b0
  try clear c4b1
  try clear c5
  try clear c5b0
  try clear c5b1
  try clear p6
  try clear q6
  try clear hx6
  try clear qi6
  try clear c7
  try clear c7b0
  try clear c7b1
  try clear c9
  try clear c9b0
  try clear c10
  try clear c10b0
  try clear p11
  try clear q11
  try clear hx11
  try clear p11
  try clear p6
  try clear q11
  try clear q6
  obtain⟨kq,x27_1,rfl,HA,HJ1,HB⟩:=hcut;cases kq with
  |zero=>exact absurd HA.out (by simp[aD.j0])
  |succ kj1=>
   have H:=HA.out;clear HA;simp only[aD.j0] at H;by_cases c12:x27_1=true
   ·subst c12
    have H1:(some ((⟨#[]⟩:ByteArray),9))=some (r1,r2):=by first|(rw[if_pos rfl] at H;exact H)|rfl
    clear H;have H:=H1;clear H1;simp only[zNq,zOq] at H;obtain⟨rfl,rfl⟩:=H;go_wp2;go_ret2;exact⟨qE,qB⟩
   replace c12:=Bool.eq_false_iff.mpr c12;subst c12;have H1:(aD.l0 kj1 a0 ([] :List Int) 0)=some (r1,r2):=by first|(rw[if_neg (show ¬ (false=true) by decide)] at H;exact H)|rfl
   clear H;have H:=H1;clear H1;have H':=zA H;clear H;go_wp2;go_loopg[4,5] kj1 (fun kq v4 v5 w'=> ∃ (x4_2:List Int) (x5_2:Int),v5= .int .i64 x5_2∧Aside0 (aD.l0 kq a0 x4_2 x5_2=some (r1,r2))∧Aside0 (kq≤kj1)∧Aside0 (Kd.R (Kd.int .u8) 5 w' w.heap.size (fun _=>True) v4 x4_2)∧Aside0 (Below w.heap.size w w'))
   case atStart=>exact⟨(([] :List Int)),(0),qF_,H',⟨Nat.le_refl _⟩,⟨qN⟩,⟨qB⟩⟩
   case round=>
    clear H';try clear c1
    try clear p1
    try clear q1
    try clear hx1
    try clear p2
    try clear c3
    try clear c3b0
    try clear c3b1
    try clear c4
    try clear c4b0
    try clear c4b1
    try clear c5
    try clear c5b0
    try clear c5b1
    try clear p6
    try clear q6
    try clear hx6
    try clear qi6
    try clear c7
    try clear c7b0
    try clear c7b1
    try clear c9
    try clear c9b0
    try clear c10
    try clear c10b0
    try clear p11
    try clear q11
    try clear hx11
    try clear c12
    try clear p1
    try clear p11
    try clear p2
    try clear p6
    try clear q1
    try clear q11
    try clear q6
    obtain⟨x4_2,x5_2,rfl,HA,HK2,HO_4,HB⟩:=hrel;cases gk with
    |zero=>exact absurd HA.out (by simp[aD.l0])
    |succ k2=>
     have H:=HA.out;clear HA;simp only[aD.l0] at H;by_cases c13:x5_2 < (a0.size:Int)
     ·rw[if_pos c13] at H
      have c13b0:=zFq c13;clear c13;by_cases c14:0≤x5_2
      ·rw[if_pos c14] at H
       have c14b0:=zFq c14;clear c14;have HC16:=zA H;clear H;have p15:0≤(x5_2:Int):=qO_;have q15:x5_2 < (a0.size:Int):=qO_;have hx15:=bt_at a0 x5_2;replace p15:=eq_true p15;replace q15:=eq_true q15;go_upto_region 8 with(fail)
       go_cut[51] (fun v51 wc=> ∃ (kq:Nat) (x51_15:Bool),v51= .bool x51_15∧Aside0 (aD.j2 kq a0 x4_2 x5_2 (bt a0 x5_2) x51_15=some (r1,r2))∧Aside0 (kq≤k2)∧Aside0 (Kd.R (Kd.int .u8) 5 wc w.heap.size (fun _=>True) u4 x4_2)∧Aside0 (Below w.heap.size w wc))
       case first=>
        have H:=HC16.out;clear HC16;obtain⟨t101,A17,H⟩:=qD_ H;(try dsimp only at H);by_cases c18:t101=0
        ·rw[if_pos c18] at H
         have c18b0:(t101==0)=true:=beq_iff_eq.mpr c18;have c18b1:(t101 != 0)=false:=bne_eq_false_iff_eq.mpr c18;clear c18;(first|rw[c18b0] |(simp only[i64_w,i32_w];rw[c18b0])|skip)
         have H':=zA H;clear H;go_wp2_with (first|((with_reducible refine zJq (f:=161) rfl ?_);refine goesL_ (some 39) rfl rfl Try.func161 (by kernel_rfl) rfl #[.int .i32 (wrap32 (bt a0 x5_2))] rfl qG ?_;(with_reducible refine(aJ.calls k2 (wrap32 (bt a0 x5_2)) t101 _ A17.out).mono ?_);rintro e w' ⟨rfl,⟨nd,rfl⟩⟩;refine⟨_,rfl,?_⟩));go_meet
         case rel=>exact⟨_,(true),qF_,H',⟨by have:=HJ1.out;have:=HK2.out;first|omega|exact Nat.le_refl _⟩,⟨qR_ HO_4.out⟩,⟨qB⟩⟩
        rw[if_neg c18] at H;have c18b0:(t101==0)=false:=beq_eq_false_iff_ne.mpr c18;have c18b1:(t101 != 0)=true:=bne_iff_ne.mpr c18;(first|rw[c18b0] |(simp only[i64_w,i32_w];rw[c18b0])|skip)
        by_cases c19:(bt a0 x5_2)=45
        ·rw[if_pos c19] at H
         have c19b0:((bt a0 x5_2)==45)=true:=beq_iff_eq.mpr c19;have c19b1:((bt a0 x5_2) != 45)=false:=bne_eq_false_iff_eq.mpr c19;clear c19;obtain⟨ji20,hji20⟩: ∃ j_:Int,(wrap64 (x5_2 - 1))=j_:=⟨_,rfl⟩
         replace H:(if 0≤(ji20)then(if(ji20) < (a0.size:Int)then(aD.j2 k2 a0 x4_2 x5_2 (bt a0 x5_2) ((bt a0 (ji20))==45))else(none))else(none))=some (r1,r2):=by first|(rw[hji20] at H;exact H)|(simp only[hji20] at H⊢;exact H)
         (try rw[hji20] at A17)
         have hji20w:(IntKind.i64.wrap (x5_2 - 1))=ji20:=(i64_w _).trans hji20;by_cases c21:0≤(ji20)
         ·rw[if_pos c21] at H
          have c21b0:=zFq c21;clear c21;by_cases c22:(ji20) < (a0.size:Int)
          ·rw[if_pos c22] at H
           have c22b0:=zFq c22;clear c22;have H':=zA H;clear H;go_wp2_with (first|((with_reducible refine zJq (f:=161) rfl ?_);refine goesL_ (some 39) rfl rfl Try.func161 (by kernel_rfl) rfl #[.int .i32 (wrap32 (bt a0 x5_2))] rfl qG ?_;(with_reducible refine(aJ.calls k2 (wrap32 (bt a0 x5_2)) t101 _ A17.out).mono ?_);rintro e w' ⟨rfl,⟨nd,rfl⟩⟩;refine⟨_,rfl,?_⟩;have p23:0≤((ji20):Int):=qO_;have q23:(ji20) < (a0.size:Int):=qO_;have hx23:=bt_at a0 (ji20);replace p23:=eq_true p23;replace q23:=eq_true q23));go_meet
           case rel=>exact⟨_,(((bt a0 (ji20))==45)),(by first|rfl|(simp;done)|(simp only[←hji20] <;> (first|rfl|simp))|(simp[*];done)),H',⟨by have:=HJ1.out;have:=HK2.out;first|omega|exact Nat.le_refl _⟩,⟨qR_ HO_4.out⟩,⟨qB⟩⟩
          rw[if_neg c22] at H;exact absurd H (by simp)
         rw[if_neg c21] at H;exact absurd H (by simp)
        rw[if_neg c19] at H;have c19b0:((bt a0 x5_2)==45)=false:=beq_eq_false_iff_ne.mpr c19;have c19b1:((bt a0 x5_2) != 45)=true:=bne_iff_ne.mpr c19;have H':=zA H;clear H;go_wp2_with (first|((with_reducible refine zJq (f:=161) rfl ?_);refine goesL_ (some 39) rfl rfl Try.func161 (by kernel_rfl) rfl #[.int .i32 (wrap32 (bt a0 x5_2))] rfl qG ?_;(with_reducible refine(aJ.calls k2 (wrap32 (bt a0 x5_2)) t101 _ A17.out).mono ?_);rintro e w' ⟨rfl,⟨nd,rfl⟩⟩;refine⟨_,rfl,?_⟩));go_meet
        case rel=>exact⟨_,(false),qF_,H',⟨by have:=HJ1.out;have:=HK2.out;first|omega|exact Nat.le_refl _⟩,⟨qR_ HO_4.out⟩,⟨qB⟩⟩
       case rest=>
        clear HC16;try clear c1
        try clear p1
        try clear q1
        try clear hx1
        try clear c2
        try clear p2
        try clear q2
        try clear hx2
        try clear c3
        try clear c3b0
        try clear c3b1
        try clear p3
        try clear c4
        try clear c4b0
        try clear c4b1
        try clear c5
        try clear c5b0
        try clear c5b1
        try clear p6
        try clear q6
        try clear hx6
        try clear qi6
        try clear c7
        try clear c7b0
        try clear c7b1
        try clear c9
        try clear c9b0
        try clear c10
        try clear c10b0
        try clear p11
        try clear q11
        try clear hx11
        try clear c12
        try clear c13
        try clear c13b0
        try clear c14
        try clear c14b0
        try clear c15
        try clear p15
        try clear q15
        try clear hx15
        try clear c16
        try clear c18
        try clear c18b0
        try clear c18b1
        try clear c19
        try clear c19b0
        try clear c19b1
        try clear c21
        try clear c21b0
        try clear c22
        try clear c22b0
        try clear p23
        try clear q23
        try clear hx23
        try clear p1
        try clear p11
        try clear p15
        try clear p2
        try clear p23
        try clear p6
        try clear q1
        try clear q11
        try clear q15
        try clear q23
        try clear q6
        obtain⟨kq,x51_15,rfl,HA,HJ15,HO_4,HB⟩:=hcut;cases kq with
        |zero=>exact absurd HA.out (by simp[aD.j2])
        |succ kj15=>
         have H:=HA.out;clear HA;simp only[aD.j2] at H;by_cases c24:x51_15=true
         ·subst c24
          have H1:(some ((⟨#[]⟩:ByteArray),9))=some (r1,r2):=by first|(rw[if_pos rfl] at H;exact H)|rfl
          clear H;have H:=H1;clear H1;simp only[zNq,zOq] at H;obtain⟨rfl,rfl⟩:=H;go_wp2;go_ret2;exact⟨qE,qB⟩
         replace c24:=Bool.eq_false_iff.mpr c24;subst c24;have H1:(if(bt a0 x5_2)≥97 then(if(bt a0 x5_2)≤122 then(if x4_2.length < 140737488355328 then(aD.l0 kj15 a0 (x4_2++ [((bt a0 x5_2) - 32) % 256]) (wrap64 (x5_2+1)))else(none))else(if x4_2.length < 140737488355328 then(aD.l0 kj15 a0 (x4_2++ [(bt a0 x5_2)]) (wrap64 (x5_2+1)))else(none)))else(if x4_2.length < 140737488355328 then(aD.l0 kj15 a0 (x4_2++ [(bt a0 x5_2)]) (wrap64 (x5_2+1)))else(none)))=some (r1,r2):=by first|(rw[if_neg (show ¬ (false=true) by decide)] at H;exact H)|rfl
         clear H;have H:=H1;clear H1;by_cases c25:(bt a0 x5_2)≥97
         ·rw[if_pos c25] at H
          have c25b0:decide (97≤(bt a0 x5_2))=true:=zFq c25;clear c25;by_cases c26:(bt a0 x5_2)≤122
          ·rw[if_pos c26] at H
           have c26b0:=zFq c26;clear c26;by_cases c27:x4_2.length < 140737488355328
           ·rw[if_pos c27] at H
            have LMc27:=zA c27;clear c27;obtain⟨y102,hy102⟩: ∃ y_:List Int,y_=(x4_2++ [((bt a0 x5_2) - 32) % 256]):=⟨_,rfl⟩
            replace H:(aD.l0 kj15 a0 y102 (wrap64 (x5_2+1)))=some (r1,r2):=by first|(rw[hy102];with_reducible exact H)|(have H2_:=(Option.bind_some _ _).symm.trans H;rw[hy102];with_reducible exact H2_)|(have H2_:=(Option.bind_some _ _).symm.trans H;with_reducible exact H2_)|with_reducible exact H|(rw[hy102];exact H)|exact H
            have Ny102:=zA hy102;clear hy102;have H':=zA H;clear H;go_wp2_with (first|((with_reducible refine gate_builtin (b:= .append) (xs:= #[.tmp 60,.tmp 62]) rfl ?_);(try(refine gate_guard (by rfl) ?_;dsimp only));at_builtin;refine Kd.R_append (Kd.int .u8) (w0:=w) w.heap.size rfl (.tmp 60) (.tmp 62) 179 5 (.int .u8 0) 1 rfl Try.underlying179 info5 rfl (by decide) (by omega) u4 x4_2 (((bt a0 x5_2) - 32) % 256) [.int .u8 (((bt a0 x5_2) - 32) % 256)] (fun _=>True) (fun _=>False) rfl rfl ?aP (fun _ hk=>hk.elim) ?aF ?aO ?aB ?aS ?aL ?_;(case aP=>exact rfl);(case aB=>exact qB);(case aF=>exact(fun _ _=>trivial));(case aO=>exact(qR_ HO_4.out));(case aS=>exact(zW qB));(case aL=>have:=LMc27.out;omega);intro v103 w28 ho hb hg hat;rw[←Ny102.out] at ho;replace HB:=zA (hb);have HO104:=zA (ho);clear HO_4 ho hb hg hat));go_roundg kj15
            case measure=>have:=HJ1.out;have:=HK2.out;have:=HJ15.out;omega
            case rel=>exact⟨(y102),(wrap64 (x5_2+1)),qF_,H',⟨by have:=HJ1.out;have:=HK2.out;have:=HJ15.out;omega⟩,⟨qR_ HO104.out⟩,⟨qB⟩⟩
           rw[if_neg c27] at H;exact absurd H (by simp)
          rw[if_neg c26] at H;have c26b0:=zGq c26;clear c26;by_cases c29:x4_2.length < 140737488355328
          ·rw[if_pos c29] at H
           have LMc29:=zA c29;clear c29;obtain⟨y105,hy105⟩: ∃ y_:List Int,y_=(x4_2++ [(bt a0 x5_2)]):=⟨_,rfl⟩
           replace H:(aD.l0 kj15 a0 y105 (wrap64 (x5_2+1)))=some (r1,r2):=by first|(rw[hy105];with_reducible exact H)|(have H2_:=(Option.bind_some _ _).symm.trans H;rw[hy105];with_reducible exact H2_)|(have H2_:=(Option.bind_some _ _).symm.trans H;with_reducible exact H2_)|with_reducible exact H|(rw[hy105];exact H)|exact H
           have Ny105:=zA hy105;clear hy105;have H':=zA H;clear H;go_wp2_with (first|((with_reducible refine gate_builtin (b:= .append) (xs:= #[.tmp 60,.tmp 62]) rfl ?_);(try(refine gate_guard (by rfl) ?_;dsimp only));at_builtin;refine Kd.R_append (Kd.int .u8) (w0:=w) w.heap.size rfl (.tmp 60) (.tmp 62) 179 5 (.int .u8 0) 1 rfl Try.underlying179 info5 rfl (by decide) (by omega) u4 x4_2 (bt a0 x5_2) [.int .u8 (bt a0 x5_2)] (fun _=>True) (fun _=>False) rfl rfl ?aP (fun _ hk=>hk.elim) ?aF ?aO ?aB ?aS ?aL ?_;(case aP=>exact rfl);(case aB=>exact qB);(case aF=>exact(fun _ _=>trivial));(case aO=>exact(qR_ HO_4.out));(case aS=>exact(zW qB));(case aL=>have:=LMc29.out;omega);intro v106 w30 ho hb hg hat;rw[←Ny105.out] at ho;replace HB:=zA (hb);have HO107:=zA (ho);clear HO_4 ho hb hg hat));go_roundg kj15
           case measure=>have:=HJ1.out;have:=HK2.out;have:=HJ15.out;omega
           case rel=>exact⟨(y105),(wrap64 (x5_2+1)),qF_,H',⟨by have:=HJ1.out;have:=HK2.out;have:=HJ15.out;omega⟩,⟨qR_ HO107.out⟩,⟨qB⟩⟩
          rw[if_neg c29] at H;exact absurd H (by simp)
         rw[if_neg c25] at H;have c25b0:decide (97≤(bt a0 x5_2))=false:=zGq c25;clear c25;by_cases c31:x4_2.length < 140737488355328
         ·rw[if_pos c31] at H
          have LMc31:=zA c31;clear c31;obtain⟨y108,hy108⟩: ∃ y_:List Int,y_=(x4_2++ [(bt a0 x5_2)]):=⟨_,rfl⟩
          replace H:(aD.l0 kj15 a0 y108 (wrap64 (x5_2+1)))=some (r1,r2):=by first|(rw[hy108];with_reducible exact H)|(have H2_:=(Option.bind_some _ _).symm.trans H;rw[hy108];with_reducible exact H2_)|(have H2_:=(Option.bind_some _ _).symm.trans H;with_reducible exact H2_)|with_reducible exact H|(rw[hy108];exact H)|exact H
          have Ny108:=zA hy108;clear hy108;have H':=zA H;clear H;go_wp2_with (first|((with_reducible refine gate_builtin (b:= .append) (xs:= #[.tmp 60,.tmp 62]) rfl ?_);(try(refine gate_guard (by rfl) ?_;dsimp only));at_builtin;refine Kd.R_append (Kd.int .u8) (w0:=w) w.heap.size rfl (.tmp 60) (.tmp 62) 179 5 (.int .u8 0) 1 rfl Try.underlying179 info5 rfl (by decide) (by omega) u4 x4_2 (bt a0 x5_2) [.int .u8 (bt a0 x5_2)] (fun _=>True) (fun _=>False) rfl rfl ?aP (fun _ hk=>hk.elim) ?aF ?aO ?aB ?aS ?aL ?_;(case aP=>exact rfl);(case aB=>exact qB);(case aF=>exact(fun _ _=>trivial));(case aO=>exact(qR_ HO_4.out));(case aS=>exact(zW qB));(case aL=>have:=LMc31.out;omega);intro v109 w32 ho hb hg hat;rw[←Ny108.out] at ho;replace HB:=zA (hb);have HO110:=zA (ho);clear HO_4 ho hb hg hat));go_roundg kj15
          case measure=>have:=HJ1.out;have:=HK2.out;have:=HJ15.out;omega
          case rel=>exact⟨(y108),(wrap64 (x5_2+1)),qF_,H',⟨by have:=HJ1.out;have:=HK2.out;have:=HJ15.out;omega⟩,⟨qR_ HO110.out⟩,⟨qB⟩⟩
         rw[if_neg c31] at H;exact absurd H (by simp)
      rw[if_neg c14] at H;exact absurd H (by simp)
     rw[if_neg c13] at H;have c13b0:=zGq c13;clear c13;simp only[zNq,zOq] at H;obtain⟨rfl,rfl⟩:=H;have hcv33:=own_string (P:=Try.prog) Try.underlying179 Try.underlying5 Try.underlying9 (Kd.own_of_R HO_4.out);go_wp2;go_ret2;exact⟨qE,qB⟩
def bN.f (k:Nat) (a0:ByteArray):Option (Int):=(aD.f k a0).bind fun bt101=> (if bt101.2=0 then(if bt101.1.toList=a0.toList then(some 0)else(some 9))else(some 9))
theorem bN.mono: ∀ a0 k,LeO (bN.f k a0) (bN.f (k+1) a0):=by
  intro a0 k
  unfold bN.f
  repeat' (with_reducible first|exact aD.mono _ _|exact LeO.refl _|exact LeO.none _|refine LeO.ite ?_ ?_|refine LeO.bind ?_ (fun _=>?_))
theorem bN.calls (k:Nat) (a0:ByteArray) (r:Int) (w:World) (h:bN.f k a0=some r):
  Calls Try.prog 143 #[.string a0] w fun e w'=>e= .returned (.int .i64 r)∧Below w.heap.size w w':=by
 have HB:=zA (Below.refl w.heap.size w)
 have H:((aD.f k a0).bind fun bt101=> (if bt101.2=0 then(if bt101.1.toList=a0.toList then(some 0)else(some 9))else(some 9)))=some r:=h
 clear h
 obtain⟨⟨t101,t102⟩,A2,H⟩:=qD_ H
 (try dsimp only at H)
 by_cases c3:t102=0
 ·rw[if_pos c3] at H
  have c3b0:(t102==0)=true:=beq_iff_eq.mpr c3;have c3b1:(t102 != 0)=false:=bne_eq_false_iff_eq.mpr c3;clear c3;by_cases c4:t101.toList=a0.toList
  ·rw[if_pos c4] at H
   have c4b0:(t101.toList==a0.toList)=true:=beq_iff_eq.mpr c4;have c4b1:(t101.toList != a0.toList)=false:=bne_eq_false_iff_eq.mpr c4;clear c4;obtain rfl:=zKq H;go_enter Try.func143,Try.ntmps143;go_wp2_with (first|((with_reducible refine zJq (f:=151) rfl ?_);refine goesL_ (some 7) rfl rfl Try.func151 (by kernel_rfl) rfl #[.string a0] rfl qG ?_;(with_reducible refine(aD.calls k a0 t101 t102 _ A2.out).mono ?_);rintro e w5 ⟨rfl,hb⟩;refine⟨_,rfl,?_⟩;replace HB:=zA (zV qB hb);(try clear hb)));go_ret;exact⟨qE,qB⟩
  rw[if_neg c4] at H;have c4b0:(t101.toList==a0.toList)=false:=beq_eq_false_iff_ne.mpr c4;have c4b1:(t101.toList != a0.toList)=true:=bne_iff_ne.mpr c4;obtain rfl:=zKq H;go_enter Try.func143,Try.ntmps143;go_wp2_with (first|((with_reducible refine zJq (f:=151) rfl ?_);refine goesL_ (some 7) rfl rfl Try.func151 (by kernel_rfl) rfl #[.string a0] rfl qG ?_;(with_reducible refine(aD.calls k a0 t101 t102 _ A2.out).mono ?_);rintro e w6 ⟨rfl,hb⟩;refine⟨_,rfl,?_⟩;replace HB:=zA (zV qB hb);(try clear hb)));go_ret;exact⟨qE,qB⟩
 rw[if_neg c3] at H
 have c3b0:(t102==0)=false:=beq_eq_false_iff_ne.mpr c3
 have c3b1:(t102 != 0)=true:=bne_iff_ne.mpr c3
 obtain rfl:=zKq H
 go_enter Try.func143,Try.ntmps143
 go_wp2_with (first|((with_reducible refine zJq (f:=151) rfl ?_);refine goesL_ (some 7) rfl rfl Try.func151 (by kernel_rfl) rfl #[.string a0] rfl qG ?_;(with_reducible refine(aD.calls k a0 t101 t102 _ A2.out).mono ?_);rintro e w7 ⟨rfl,hb⟩;refine⟨_,rfl,?_⟩;replace HB:=zA (zV qB hb);(try clear hb)))
 go_ret
 exact⟨qE,qB⟩
def bG.l0:Nat→List ByteArray→Int→Option (Int)
  |0,_,_=>none
  |k+1,x0,x3=>if x3 < (x0.length:Int)then(if 0≤x3 then((bN.f k (rdOf ByteArray.empty x0 x3)).bind fun t102=> (if t102=0 then(if x3 > 0 then(if 0≤(wrap64 (x3 - 1))then(if(wrap64 (x3 - 1)) < (x0.length:Int)then(if((Op.bytesLess ((rdOf ByteArray.empty x0 (wrap64 (x3 - 1))).toList) ((rdOf ByteArray.empty x0 x3).toList))=true)then(bG.l0 k x0 (wrap64 (x3+1)))else(some 32))else(none))else(none))else(bG.l0 k x0 (wrap64 (x3+1))))else(some 9)))else(none))else(some 0)
def bG.f (k:Nat) (l0:List ByteArray):Option (Int):=bG.l0 k l0 0
theorem bG.mono_l: ∀ k,(∀ y0 y1,LeO (bG.l0 k y0 y1) (bG.l0 (k+1) y0 y1))
  |0=>fun _ _ r h=>by simp[bG.l0] at h
  |k+1=>by
    have ih0:=bG.mono_l k
    intro y0 y1
    unfold bG.l0
    repeat' (with_reducible first|exact ih0 _ _|exact bN.mono _ _|exact LeO.refl _|exact LeO.none _|refine LeO.ite ?_ ?_|refine LeO.bind ?_ (fun _=>?_))
theorem bG.mono: ∀ a0 k,LeO (bG.f k a0) (bG.f (k+1) a0):=by
  intro a0 k
  have ih0:=bG.mono_l k
  unfold bG.f
  repeat' (with_reducible first|exact ih0 _ _|exact bN.mono _ _|exact LeO.refl _|exact LeO.none _|refine LeO.ite ?_ ?_|refine LeO.bind ?_ (fun _=>?_))
theorem bG.calls (k:Nat) (A0:Option Addr) (c0:Nat) (l0:List ByteArray) (r:Int) (w:World) (hr0:Kd.C Kd.string w A0 l0.length l0) (hc0:l0.length≤c0) (h:bG.f k l0=some r):
  Calls Try.prog 120 #[.slice A0 l0.length c0] w fun e w'=>e= .returned (.int .i64 r)∧Below w.heap.size w w':=by
 have HR0:=zA hr0
 have HC0:=zA hc0
 clear hr0 hc0
 have HB:=zA (Below.refl w.heap.size w)
 have H:(bG.l0 k l0 0)=some r:=h
 clear h
 have H':=zA H
 clear H
 go_enter Try.func120,Try.ntmps120
 go_wp2
 repeat(go_quiet (fail);try go_wp2)
 go_loopg[3] k (fun kq v3 w'=> ∃ (x3_1:Int),v3= .int .i64 x3_1∧Aside0 (bG.l0 kq l0 x3_1=some r)∧Aside0 (kq≤k)∧Aside0 (Below w.heap.size w w'))
 case atStart=>exact⟨(0),qF_,H',⟨Nat.le_refl _⟩,⟨qB⟩⟩
 case round=>
  clear H';try clear c1
  obtain⟨x3_1,rfl,HA,HK1,HB⟩:=hrel;cases gk with
  |zero=>exact absurd HA.out (by simp[bG.l0])
  |succ k1=>
   have H:=HA.out;clear HA;simp only[bG.l0] at H;by_cases c2:x3_1 < (l0.length:Int)
   ·rw[if_pos c2] at H
    have c2b0:=zFq c2;clear c2;by_cases c3:0≤x3_1
    ·rw[if_pos c3] at H
     have c3b0:=zFq c3;clear c3;obtain⟨t102,A4,H⟩:=qD_ H;(try dsimp only at H);by_cases c5:t102=0
     ·rw[if_pos c5] at H
      have c5b0:(t102==0)=true:=beq_iff_eq.mpr c5;have c5b1:(t102 != 0)=false:=bne_eq_false_iff_eq.mpr c5;clear c5;by_cases c6:x3_1 > 0
      ·rw[if_pos c6] at H
       have c6b0:decide (0 < x3_1)=true:=zFq c6;clear c6;obtain⟨ji7,hji7⟩: ∃ j_:Int,(wrap64 (x3_1 - 1))=j_:=⟨_,rfl⟩
       replace H:(if 0≤(ji7)then(if(ji7) < (l0.length:Int)then(if((Op.bytesLess ((rdOf ByteArray.empty l0 (ji7)).toList) ((rdOf ByteArray.empty l0 x3_1).toList))=true)then(bG.l0 k1 l0 (wrap64 (x3_1+1)))else(some 32))else(none))else(none))=some r:=by first|(rw[hji7] at H;exact H)|(simp only[hji7] at H⊢;exact H)
       (try rw[hji7] at A4)
       have hji7w:(IntKind.i64.wrap (x3_1 - 1))=ji7:=(i64_w _).trans hji7;by_cases c8:0≤(ji7)
       ·rw[if_pos c8] at H
        have c8b0:=zFq c8;clear c8;by_cases c9:(ji7) < (l0.length:Int)
        ·rw[if_pos c9] at H
         have c9b0:=zFq c9;clear c9;by_cases c10:((Op.bytesLess ((rdOf ByteArray.empty l0 (ji7)).toList) ((rdOf ByteArray.empty l0 x3_1).toList))=true)
         ·rw[if_pos c10] at H
          have c10b0:(Op.bytesLess ((rdOf ByteArray.empty l0 (ji7)).toList) ((rdOf ByteArray.empty l0 x3_1).toList))=true:=c10;clear c10;have H':=zA H;clear H;have p101:0≤(x3_1:Int):=qO_;have q101:x3_1 < (l0.length:Int):=qO_;obtain⟨ad101,e101,hx101_0⟩:=Kd.at_string HR0.out x3_1 p101 q101;cases e101
          replace hx101_0:=qU_ hx101_0;replace p101:=eq_true p101;replace q101:=eq_true q101;go_wp2_with (first|(go_at_call 143;(with_reducible refine(bN.calls k1 (rdOf ByteArray.empty l0 x3_1) t102 _ A4.out).mono ?_);rintro e w11 ⟨rfl,hb⟩;replace HB:=zA (zV qB hb);(try clear hb);have p103:0≤(x3_1:Int):=qO_;have q103:x3_1 < (l0.length:Int):=qO_;obtain⟨ad103,e103,hx103_0⟩:=Kd.at_string HR0.out x3_1 p103 q103;obtain rfl:ad101=ad103:=(by injection e103);replace hx103_0:=qU_ hx103_0;replace p103:=eq_true p103;replace q103:=eq_true q103;have p104:0≤((ji7):Int):=qO_;have q104:(ji7) < (l0.length:Int):=qO_;obtain⟨ad104,e104,hx104_0⟩:=Kd.at_string HR0.out (ji7) p104 q104;obtain rfl:ad101=ad104:=(by injection e104);replace hx104_0:=qU_ hx104_0;replace p104:=eq_true p104;replace q104:=eq_true q104));repeat(go_quiet (first|(go_at_call 143;(with_reducible refine(bN.calls k1 (rdOf ByteArray.empty l0 x3_1) t102 _ A4.out).mono ?_);rintro e w11 ⟨rfl,hb⟩;replace HB:=zA (zV qB hb);(try clear hb);have p103:0≤(x3_1:Int):=qO_;have q103:x3_1 < (l0.length:Int):=qO_;obtain⟨ad103,e103,hx103_0⟩:=Kd.at_string HR0.out x3_1 p103 q103;obtain rfl:ad101=ad103:=(by injection e103);replace hx103_0:=qU_ hx103_0;replace p103:=eq_true p103;replace q103:=eq_true q103;have p104:0≤((ji7):Int):=qO_;have q104:(ji7) < (l0.length:Int):=qO_;obtain⟨ad104,e104,hx104_0⟩:=Kd.at_string HR0.out (ji7) p104 q104;obtain rfl:ad101=ad104:=(by injection e104);replace hx104_0:=qU_ hx104_0;replace p104:=eq_true p104;replace q104:=eq_true q104));try go_wp2_with (first|(go_at_call 143;(with_reducible refine(bN.calls k1 (rdOf ByteArray.empty l0 x3_1) t102 _ A4.out).mono ?_);rintro e w11 ⟨rfl,hb⟩;replace HB:=zA (zV qB hb);(try clear hb);have p103:0≤(x3_1:Int):=qO_;have q103:x3_1 < (l0.length:Int):=qO_;obtain⟨ad103,e103,hx103_0⟩:=Kd.at_string HR0.out x3_1 p103 q103;obtain rfl:ad101=ad103:=(by injection e103);replace hx103_0:=qU_ hx103_0;replace p103:=eq_true p103;replace q103:=eq_true q103;have p104:0≤((ji7):Int):=qO_;have q104:(ji7) < (l0.length:Int):=qO_;obtain⟨ad104,e104,hx104_0⟩:=Kd.at_string HR0.out (ji7) p104 q104;obtain rfl:ad101=ad104:=(by injection e104);replace hx104_0:=qU_ hx104_0;replace p104:=eq_true p104;replace q104:=eq_true q104)))
          go_roundg k1
          case measure=>have:=HK1.out;omega
          case rel=>exact⟨(wrap64 (x3_1+1)),qF_,H',⟨by have:=HK1.out;omega⟩,⟨qB⟩⟩
         rw[if_neg c10] at H;have c10b0:(Op.bytesLess ((rdOf ByteArray.empty l0 (ji7)).toList) ((rdOf ByteArray.empty l0 x3_1).toList))=false:=by simpa using c10
         clear c10;obtain rfl:=zKq H;have p101:0≤(x3_1:Int):=qO_;have q101:x3_1 < (l0.length:Int):=qO_;obtain⟨ad101,e101,hx101_0⟩:=Kd.at_string HR0.out x3_1 p101 q101;cases e101
         replace hx101_0:=qU_ hx101_0;replace p101:=eq_true p101;replace q101:=eq_true q101;go_wp2_with (first|(go_at_call 143;(with_reducible refine(bN.calls k1 (rdOf ByteArray.empty l0 x3_1) t102 _ A4.out).mono ?_);rintro e w12 ⟨rfl,hb⟩;replace HB:=zA (zV qB hb);(try clear hb);have p103:0≤(x3_1:Int):=qO_;have q103:x3_1 < (l0.length:Int):=qO_;obtain⟨ad103,e103,hx103_0⟩:=Kd.at_string HR0.out x3_1 p103 q103;obtain rfl:ad101=ad103:=(by injection e103);replace hx103_0:=qU_ hx103_0;replace p103:=eq_true p103;replace q103:=eq_true q103;have p104:0≤((ji7):Int):=qO_;have q104:(ji7) < (l0.length:Int):=qO_;obtain⟨ad104,e104,hx104_0⟩:=Kd.at_string HR0.out (ji7) p104 q104;obtain rfl:ad101=ad104:=(by injection e104);replace hx104_0:=qU_ hx104_0;replace p104:=eq_true p104;replace q104:=eq_true q104));repeat(go_quiet (first|(go_at_call 143;(with_reducible refine(bN.calls k1 (rdOf ByteArray.empty l0 x3_1) t102 _ A4.out).mono ?_);rintro e w12 ⟨rfl,hb⟩;replace HB:=zA (zV qB hb);(try clear hb);have p103:0≤(x3_1:Int):=qO_;have q103:x3_1 < (l0.length:Int):=qO_;obtain⟨ad103,e103,hx103_0⟩:=Kd.at_string HR0.out x3_1 p103 q103;obtain rfl:ad101=ad103:=(by injection e103);replace hx103_0:=qU_ hx103_0;replace p103:=eq_true p103;replace q103:=eq_true q103;have p104:0≤((ji7):Int):=qO_;have q104:(ji7) < (l0.length:Int):=qO_;obtain⟨ad104,e104,hx104_0⟩:=Kd.at_string HR0.out (ji7) p104 q104;obtain rfl:ad101=ad104:=(by injection e104);replace hx104_0:=qU_ hx104_0;replace p104:=eq_true p104;replace q104:=eq_true q104));try go_wp2_with (first|(go_at_call 143;(with_reducible refine(bN.calls k1 (rdOf ByteArray.empty l0 x3_1) t102 _ A4.out).mono ?_);rintro e w12 ⟨rfl,hb⟩;replace HB:=zA (zV qB hb);(try clear hb);have p103:0≤(x3_1:Int):=qO_;have q103:x3_1 < (l0.length:Int):=qO_;obtain⟨ad103,e103,hx103_0⟩:=Kd.at_string HR0.out x3_1 p103 q103;obtain rfl:ad101=ad103:=(by injection e103);replace hx103_0:=qU_ hx103_0;replace p103:=eq_true p103;replace q103:=eq_true q103;have p104:0≤((ji7):Int):=qO_;have q104:(ji7) < (l0.length:Int):=qO_;obtain⟨ad104,e104,hx104_0⟩:=Kd.at_string HR0.out (ji7) p104 q104;obtain rfl:ad101=ad104:=(by injection e104);replace hx104_0:=qU_ hx104_0;replace p104:=eq_true p104;replace q104:=eq_true q104)))
         go_ret;exact⟨by first|rfl|(simp[errW_none,errW_some] <;> rfl)|(simp only[←hji7];first|rfl|(simp[errW_none,errW_some] <;> rfl))|(simp[*,errW_none,errW_some] <;> rfl),qB⟩
        rw[if_neg c9] at H;exact absurd H (by simp)
       rw[if_neg c8] at H;exact absurd H (by simp)
      rw[if_neg c6] at H;have c6b0:decide (0 < x3_1)=false:=zGq c6;clear c6;have H':=zA H;clear H;have p101:0≤(x3_1:Int):=qO_;have q101:x3_1 < (l0.length:Int):=qO_;obtain⟨ad101,e101,hx101_0⟩:=Kd.at_string HR0.out x3_1 p101 q101;cases e101
      replace hx101_0:=qU_ hx101_0;replace p101:=eq_true p101;replace q101:=eq_true q101;go_wp2_with (first|(go_at_call 143;(with_reducible refine(bN.calls k1 (rdOf ByteArray.empty l0 x3_1) t102 _ A4.out).mono ?_);rintro e w13 ⟨rfl,hb⟩;replace HB:=zA (zV qB hb);(try clear hb)));repeat(go_quiet (first|(go_at_call 143;(with_reducible refine(bN.calls k1 (rdOf ByteArray.empty l0 x3_1) t102 _ A4.out).mono ?_);rintro e w13 ⟨rfl,hb⟩;replace HB:=zA (zV qB hb);(try clear hb)));try go_wp2_with (first|(go_at_call 143;(with_reducible refine(bN.calls k1 (rdOf ByteArray.empty l0 x3_1) t102 _ A4.out).mono ?_);rintro e w13 ⟨rfl,hb⟩;replace HB:=zA (zV qB hb);(try clear hb))))
      go_roundg k1
      case measure=>have:=HK1.out;omega
      case rel=>exact⟨(wrap64 (x3_1+1)),qF_,H',⟨by have:=HK1.out;omega⟩,⟨qB⟩⟩
     rw[if_neg c5] at H;have c5b0:(t102==0)=false:=beq_eq_false_iff_ne.mpr c5;have c5b1:(t102 != 0)=true:=bne_iff_ne.mpr c5;obtain rfl:=zKq H;have p101:0≤(x3_1:Int):=qO_;have q101:x3_1 < (l0.length:Int):=qO_;obtain⟨ad101,e101,hx101_0⟩:=Kd.at_string HR0.out x3_1 p101 q101;cases e101
     replace hx101_0:=qU_ hx101_0;replace p101:=eq_true p101;replace q101:=eq_true q101;go_wp2_with (first|(go_at_call 143;(with_reducible refine(bN.calls k1 (rdOf ByteArray.empty l0 x3_1) t102 _ A4.out).mono ?_);rintro e w14 ⟨rfl,hb⟩;replace HB:=zA (zV qB hb);(try clear hb)));repeat(go_quiet (first|(go_at_call 143;(with_reducible refine(bN.calls k1 (rdOf ByteArray.empty l0 x3_1) t102 _ A4.out).mono ?_);rintro e w14 ⟨rfl,hb⟩;replace HB:=zA (zV qB hb);(try clear hb)));try go_wp2_with (first|(go_at_call 143;(with_reducible refine(bN.calls k1 (rdOf ByteArray.empty l0 x3_1) t102 _ A4.out).mono ?_);rintro e w14 ⟨rfl,hb⟩;replace HB:=zA (zV qB hb);(try clear hb))))
     go_ret;exact⟨qE,qB⟩
    rw[if_neg c3] at H;exact absurd H (by simp)
   rw[if_neg c2] at H;have c2b0:=zGq c2;clear c2;obtain rfl:=zKq H;go_wp2;repeat(go_quiet (fail);try go_wp2)
   go_ret;exact⟨qE,qB⟩
end Go.Proofs.Ytefhljhpcpajgaa.F
