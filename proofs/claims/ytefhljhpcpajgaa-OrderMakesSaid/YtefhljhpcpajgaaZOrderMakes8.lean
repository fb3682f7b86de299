-- by prune.py (own program),out of the print
import Derived.Deep.Slices
import Derived.ChangeArms
import Derived.WideShapes
import Derived.OpenShut
import Derived.Test.YtefhljhpcpajgaaRows
import Derived.ProofKit
import Derived.ShutString
import Derived.ChangeOld
import Derived.SizedLaws
import Derived.Test.YtefhljhpcpajgaaZOrderMakes7
set_option maxHeartbeats 8000000
set_option maxRecDepth 100000
namespace Go.Proofs.Ytefhljhpcpajgaa.F
open Go.RowKit YtefhljhpcpajgaaX YtefhljhpcpajgaaW.PrintWords YtefhljhpcpajgaaW.PrintLast YtefhljhpcpajgaaW.PrintMore
attribute [local go_sem] max2_int min2_int max_two min_two max_three min_three max_four min_four
attribute [local go_sem high] str_geq str_leq str_gtr
set_option linter.unusedVariables false
set_option linter.unusedSimpArgs false
def bZ.f (k:Nat) (l0:List (S71)) (a1_0:Int) (a1_1:Int) (a1_2:Int) (a1_3:Int):Option (Bool):=(aW.f k l0).bind fun t102=> (if t102=true then((bS.f k a1_2 a1_3 l0 a1_0 a1_1).bind fun bt104=> ((bF.f k a1_2 a1_3 l0 a1_0 a1_1).bind fun bt111=> ((cG.f k bt104.1 bt104.2.1 bt104.2.2.1 bt111.1 bt111.2.1 bt111.2.2.1).bind fun t118=> (if t118=true then(if bt104.2.2.2=bt111.2.2.2 then((cF.f).bind fun t119=> (if t119=true then(some true)else(some false)))else(some false))else(some false)))))else((cF.f).bind fun t103=> (if t103=true then(some true)else(some false))))
theorem bZ.mono: ∀ a0 a1 a2 a3 a4 k,LeO (bZ.f k a0 a1 a2 a3 a4) (bZ.f (k+1) a0 a1 a2 a3 a4):=by
  intro a0 a1 a2 a3 a4 k
  unfold bZ.f
  repeat' (with_reducible first|exact aW.mono _ _|exact bF.mono _ _ _ _ _ _|exact cG.mono _ _ _ _ _ _ _|exact bS.mono _ _ _ _ _ _|exact LeO.refl _|exact LeO.none _|refine LeO.ite ?_ ?_|refine LeO.bind ?_ (fun _=>?_))
theorem bZ.calls (k:Nat) (A0:Option Addr) (c0:Nat) (l0:List (S71)) (a1_0:Int) (a1_1:Int) (a1_2:Int) (a1_3:Int) (w:World) (hr0:Kd.C k71 w A0 l0.length l0) (hc0:l0.length≤c0) (h:bZ.f k l0 a1_0 a1_1 a1_2 a1_3=some true):
  Calls Try.prog 20 #[.slice A0 l0.length c0,.agg #[.int .i64 a1_0,.int .i64 a1_1,.int .i64 a1_2,.int .i64 a1_3]] w fun e w'=>e= .returned (.bool true)∧Below w.heap.size w w':=by
 have hu97:=Try.underlying97
 have hu99:=Try.underlying99
 have HR0:=zA hr0
 have HC0:=zA hc0
 clear hr0 hc0
 have HB:=zA (Below.refl w.heap.size w)
 have H:((aW.f k l0).bind fun t102=> (if t102=true then((bS.f k a1_2 a1_3 l0 a1_0 a1_1).bind fun bt104=> ((bF.f k a1_2 a1_3 l0 a1_0 a1_1).bind fun bt111=> ((cG.f k bt104.1 bt104.2.1 bt104.2.2.1 bt111.1 bt111.2.1 bt111.2.2.1).bind fun t118=> (if t118=true then(if bt104.2.2.2=bt111.2.2.2 then((cF.f).bind fun t119=> (if t119=true then(some true)else(some false)))else(some false))else(some false)))))else((cF.f).bind fun t103=> (if t103=true then(some true)else(some false)))))=some true:=h
 clear h
 obtain⟨t102,A3,H⟩:=qD_ H
 (try dsimp only at H)
 by_cases c4:t102=true
 ·subst c4
  have H1:((bS.f k a1_2 a1_3 l0 a1_0 a1_1).bind fun bt104=> ((bF.f k a1_2 a1_3 l0 a1_0 a1_1).bind fun bt111=> ((cG.f k bt104.1 bt104.2.1 bt104.2.2.1 bt111.1 bt111.2.1 bt111.2.2.1).bind fun t118=> (if t118=true then(if bt104.2.2.2=bt111.2.2.2 then((cF.f).bind fun t119=> (if t119=true then(some true)else(some false)))else(some false))else(some false)))))=some true:=by first|(rw[if_pos rfl] at H;exact H)|rfl
  clear H;have H:=H1;clear H1;obtain⟨⟨t104,t105,t106,t109⟩,A5,H⟩:=qD_ H;(try dsimp only at H);obtain⟨⟨t111,t112,t113,t116⟩,A6,H⟩:=qD_ H;(try dsimp only at H);obtain⟨t118,A7,H⟩:=qD_ H;(try dsimp only at H);by_cases c8:t118=true
  ·subst c8
   have H1:(if t109=t116 then((cF.f).bind fun t119=> (if t119=true then(some true)else(some false)))else(some false))=some true:=by first|(rw[if_pos rfl] at H;exact H)|rfl
   clear H;have H:=H1;clear H1;by_cases c9:t109=t116
   ·rw[if_pos c9] at H
    have c9b0:(t109==t116)=true:=beq_iff_eq.mpr c9;have c9b1:(t109 != t116)=false:=bne_eq_false_iff_eq.mpr c9;clear c9;obtain⟨t119,A10,H⟩:=qD_ H;(try dsimp only at H);by_cases c11:t119=true
    ·subst c11
     have H1:(some true)=some true:=by first|(rw[if_pos rfl] at H;exact H)|rfl
     clear H;have H:=H1;clear H1;clear H;go_enter Try.func20,Try.ntmps20;go_wp2_with (first|((with_reducible refine gate_dst (N:=3) rfl ?_);refine box_event qr (N:=3) qr (cs:= #[.int .i64 a1_0,.int .i64 a1_1,.int .i64 a1_2,.int .i64 a1_3]) (t:=97) qg ?_;intro gb101 hg w12 hbox hb;have BK101:=zA (hbox);have GW101:=zA ((qS:w.heap.size≤gb101));have GE101:=zA ((qS:w.heap.size≤gb101));replace HB:=zA (zV qB hb);clear hb hbox hg)|((with_reducible refine zJq (f:=60) rfl ?_);refine goesL_ (some 10) rfl rfl Try.func60 (by kernel_rfl) rfl #[.slice A0 l0.length c0] rfl qG ?_;(with_reducible refine(aW.calls k _ _ l0 true _ ?side1 ?side2 A3.out).mono ?_);(case side1=>exact qC (Kd.C_below HR0.out HB.out));(case side2=>exact HC0.out);rintro e w' ⟨rfl,⟨nd,rfl⟩⟩;refine⟨_,rfl,?_⟩;(try(rw[drewN_self w12];generalize hq_:World.drewN w12 _=w12;have n0_:Aside0 (w12.heap[gb101]? =some (.cells #[.int .i64 a1_0,.int .i64 a1_1,.int .i64 a1_2,.int .i64 a1_3] 97 (0,0))):=⟨by rw[←hq_];exact(qW BK101.out)⟩;have n1_:Aside0 (Below w.heap.size w w12):=⟨by rw[←hq_];exact qB⟩;clear BK101 HB hq_;have BK101:=n0_;have HB:=n1_;clear n0_ n1_));obtain⟨_,_,_,_,_,_,_,_⟩:=qc4f BK101.out)|((with_reducible refine zJq (f:=83) rfl ?_);refine goesL_ (some 23) rfl rfl Try.func83 (by kernel_rfl) rfl #[.int .i64 a1_2,.int .i64 a1_3,.slice A0 l0.length c0,.int .i64 a1_0,.int .i64 a1_1] rfl qG ?_;(with_reducible refine(bS.calls k a1_2 a1_3 (fun k_=>k_ < w.heap.size) _ _ l0 a1_0 a1_1 t104 t105 t106 t109 _ ?side1 A5.out).mono ?_);(case side1=>exact Kd.V_mk HC0.out (Kd.F_below (Kd.C_F k71_heap HR0.out) qB));rintro e w14 ⟨v107,rfl,ho0,hb⟩;refine⟨_,rfl,?_⟩;have HO108:=zA (Kd.N_lower (Kd.N_mono (ok':=fun k_=>k_≠gb101) ho0 (fun k_ hk_=>Or.elim hk_ (fun hs_=>fun e_=>Nat.not_le.2 hs_ (by rw[e_];exact GW101.out)) (fun hn_=> (Kd.freshB (g:=gb101) (o:= .cells #[.int .i64 a1_0,.int .i64 a1_1,.int .i64 a1_2,.int .i64 a1_3] 97 (0,0)) (qW BK101.out) k_ hn_)))) (zW qB));replace BK101:=zA (qX BK101.out hb);replace HB:=zA (zV qB hb);(try clear hb);(try clear ho0))|((with_reducible refine gate_dst (N:=5) rfl ?_);refine box_event qr (N:=5) qr (cs:= #[.int .i64 0,.int .i64 0,.slice none 0 0]) (t:=99) qg ?_;intro gb110 hg w15 hbox hb;replace HO108:=zA (Kd.N_below (Kd.N_elderB (qN_ HO108.out) gb110 (Nat.le_of_eq hg.symm)) hb);have BK110:=zA (hbox);have GW110:=zA ((qS:w.heap.size≤gb110));have GE110:=zA ((qS:w.heap.size≤gb110));replace HB:=zA (zV qB hb);have NB101_110:=zA ((by rw[hg];exact zLq (qL BK101.out):gb101≠gb110));have NB110_101:=zA ((by rw[hg];exact zMq (qL BK101.out):gb110≠gb101));replace BK101:=zA (qX BK101.out hb);clear hb hbox hg;have hnb16:=NB110_101.out;have hnc16:=NB101_110.out;obtain⟨_,_,_,_,_,_⟩:=qc3f BK110.out;obtain⟨Ao18,co18,eo18⟩:=Kd.N_slice HO108.out;subst eo18)|((with_reducible refine gate_store (t:=99) (p:=5) rfl ?_);refine store_event (t:=99) (p:=5) (v:=?vo_w19) (w1:=(((w15.setCell ⟨gb110,0,none⟩ (.int .i64 t104)).setCell ⟨gb110,1,none⟩ (.int .i64 t105)).setCell ⟨gb110,2,none⟩ (.slice Ao18 t106.length co18))) ?hg ?ho ?hn ?hr ?_;(case ho=>rfl);(case hg=>rfl);(case hn=>rfl);(case hr=>first|(go_simp;done)|(go_simp;rfl));intro w19 hw;have n0_:Aside0 (Kd.N k71 71 w19 w.heap.size (fun k_=>k_≠gb101∧k_≠gb110) (.slice Ao18 t106.length co18) t106):=⟨(by rw[hw];exact(by(with_reducible repeat(first|apply Kd.N_alloc|apply Kd.N_drewN|apply Kd.N_drew));exact Kd.N_mono (Kd.N_far (p:=⟨gb110,2,none⟩) (Kd.N_far (p:=⟨gb110,1,none⟩) (Kd.N_far (p:=⟨gb110,0,none⟩) (Kd.N_mono HO108.out (fun k_ hk=> (⟨hk,hk.2⟩:_∧k_≠gb110))) (fun _ hk=>hk.2) (.int .i64 t104)) (fun _ hk=>hk.2) (.int .i64 t105)) (fun _ hk=>hk.2) (.slice Ao18 t106.length co18)) (fun _ hk=> ⟨hk.1.1,hk.1.2⟩)))⟩;have n1_:Aside0 (w19.heap[gb101]? =some (.cells #[.int .i64 a1_0,.int .i64 a1_1,.int .i64 a1_2,.int .i64 a1_3] 97 (0,0))):=⟨(by rw[hw];exact(qW BK101.out))⟩;have n2_:Aside0 (w19.heap[gb110]? =some (.cells #[.int .i64 t104,.int .i64 t105,.slice Ao18 t106.length co18] 99 (0,0))):=⟨(by rw[hw];exact(qV BK110.out))⟩;have n3_:Aside0 (Below w.heap.size w w19):=⟨(by rw[hw];exact qB)⟩;clear hw HO108 BK101 BK110 HB;have HO108:=n0_;have BK101:=n1_;have BK110:=n2_;have HB:=n3_;clear n0_ n1_ n2_ n3_;obtain⟨_,_,_,_,_,_,_,_⟩:=qc4f BK101.out)|((with_reducible refine zJq (f:=84) rfl ?_);refine goesL_ (some 36) rfl rfl Try.func84 (by kernel_rfl) rfl #[.int .i64 a1_2,.int .i64 a1_3,.slice A0 l0.length c0,.int .i64 a1_0,.int .i64 a1_1] rfl qG ?_;(with_reducible refine(bF.calls k a1_2 a1_3 (fun k_=>k_ < w.heap.size) _ _ l0 a1_0 a1_1 t111 t112 t113 t116 _ ?side1 A6.out).mono ?_);(case side1=>exact Kd.V_mk HC0.out (Kd.F_below (Kd.C_F k71_heap HR0.out) qB));rintro e w21 ⟨v114,rfl,ho0,hb⟩;refine⟨_,rfl,?_⟩;have HO115:=zA (Kd.N_lower (Kd.N_mono (ok':=fun k_=>some k_≠(.slice Ao18 t106.length co18:Value).ownBlock∧k_≠gb101∧k_≠gb110) ho0 (fun k_ hk_=> ⟨Or.elim hk_ (fun hs_=>fun e_=>Nat.not_le.2 hs_ (Kd.N_base HO108.out k_ e_.symm)) (fun hn_=> (Kd.fresh' (Kd.N_lt (qN_ HO108.out)) k_ hn_)),Or.elim hk_ (fun hs_=>fun e_=>Nat.not_le.2 hs_ (by rw[e_];exact GW101.out)) (fun hn_=> (Kd.freshB (g:=gb101) (o:= .cells #[.int .i64 a1_0,.int .i64 a1_1,.int .i64 a1_2,.int .i64 a1_3] 97 (0,0)) (qW BK101.out) k_ hn_)),Or.elim hk_ (fun hs_=>fun e_=>Nat.not_le.2 hs_ (by rw[e_];exact GW110.out)) (fun hn_=> (Kd.freshB (g:=gb110) (o:= .cells #[.int .i64 t104,.int .i64 t105,.slice Ao18 t106.length co18] 99 (0,0)) (qW BK110.out) k_ hn_))⟩)) (zW qB));replace HO108:=zA (Kd.N_elder' (qN_ HO108.out) (Kd.N_base ho0) hb);replace BK101:=zA (qX BK101.out hb);replace BK110:=zA (qX BK110.out hb);replace HB:=zA (zV qB hb);(try clear hb);(try clear ho0))|((with_reducible refine gate_dst (N:=7) rfl ?_);refine box_event qr (N:=7) qr (cs:= #[.int .i64 0,.int .i64 0,.slice none 0 0]) (t:=99) qg ?_;intro gb117 hg w22 hbox hb;replace HO108:=zA (Kd.N_below (Kd.N_elderB (qN_ HO108.out) gb117 (Nat.le_of_eq hg.symm)) hb);replace HO115:=zA (Kd.N_below (Kd.N_elderB (qN_ HO115.out) gb117 (Nat.le_of_eq hg.symm)) hb);have BK117:=zA (hbox);have GW117:=zA ((qS:w.heap.size≤gb117));have GE117:=zA ((qS:w.heap.size≤gb117));replace HB:=zA (zV qB hb);have NB101_117:=zA ((by rw[hg];exact zLq (qL BK101.out):gb101≠gb117));have NB117_101:=zA ((by rw[hg];exact zMq (qL BK101.out):gb117≠gb101));replace BK101:=zA (qX BK101.out hb);have NB110_117:=zA ((by rw[hg];exact zLq (qL BK110.out):gb110≠gb117));have NB117_110:=zA ((by rw[hg];exact zMq (qL BK110.out):gb117≠gb110));replace BK110:=zA (qX BK110.out hb);clear hb hbox hg;have hnb23:=NB117_101.out;have hnc23:=NB101_117.out;have hnb24:=NB117_110.out;have hnc24:=NB110_117.out;obtain⟨_,_,_,_,_,_⟩:=qc3f BK117.out;obtain⟨Ao26,co26,eo26⟩:=Kd.N_slice HO115.out;subst eo26;obtain⟨_,_,_,_,_,_⟩:=qc3f BK110.out)|((with_reducible refine zJq (f:=85) rfl ?_);refine goesL_ (some 41) rfl rfl Try.func85 (by kernel_rfl) rfl #[.agg #[.int .i64 t104,.int .i64 t105,.slice Ao18 t106.length co18],.agg #[.int .i64 t111,.int .i64 t112,.slice Ao26 t113.length co26]] rfl qG ?_;(with_reducible refine(cG.calls k t104 t105 _ _ t106 t111 t112 _ _ t113 true _ ?side1 ?side2 ?side3 ?side4 A7.out).mono ?_);(case side1=>refine(Kd.N_reads' (e:=71) (base:=w.heap.size) (ok:=fun k_=> (((k_≠gb101∧k_≠gb110)∧some k_≠(.slice Ao26 t113.length co26:Value).ownBlock)∧k_≠gb117)) (n:=t106.length) (c:=co18) ?_).2.2;exact(by(with_reducible repeat(first|apply Kd.N_alloc|apply Kd.N_drewN|apply Kd.N_drew));exact(Kd.N_mono (Kd.N_far (p:=⟨gb117,2,none⟩) (Kd.N_far (p:=⟨gb117,1,none⟩) (Kd.N_far (p:=⟨gb117,0,none⟩) (Kd.N_mono HO108.out (fun k_ hk=> (⟨hk,hk.2⟩:_∧k_≠gb117))) (fun _ hk=>hk.2) (.int .i64 t111)) (fun _ hk=>hk.2) (.int .i64 t112)) (fun _ hk=>hk.2) (.slice Ao26 t113.length co26)) (fun _ h_=>by first|exact h_.1|(have h2_:=h_.1;simp only[and_assoc,and_left_comm,and_comm] at h2_⊢;exact h2_)))));(case side2=>exact(Kd.N_reads' HO108.out).2.1);(case side3=>refine(Kd.N_reads' (e:=71) (base:=w.heap.size) (ok:=fun k_=> ((some k_≠(.slice Ao18 t106.length co18:Value).ownBlock∧(k_≠gb101∧k_≠gb110))∧k_≠gb117)) (n:=t113.length) (c:=co26) ?_).2.2;exact(by(with_reducible repeat(first|apply Kd.N_alloc|apply Kd.N_drewN|apply Kd.N_drew));exact(Kd.N_mono (Kd.N_far (p:=⟨gb117,2,none⟩) (Kd.N_far (p:=⟨gb117,1,none⟩) (Kd.N_far (p:=⟨gb117,0,none⟩) (Kd.N_mono HO115.out (fun k_ hk=> (⟨hk,hk.2⟩:_∧k_≠gb117))) (fun _ hk=>hk.2) (.int .i64 t111)) (fun _ hk=>hk.2) (.int .i64 t112)) (fun _ hk=>hk.2) (.slice Ao26 t113.length co26)) (fun _ h_=>by first|exact h_.1|(have h2_:=h_.1;simp only[and_assoc,and_left_comm,and_comm] at h2_⊢;exact h2_)))));(case side4=>exact(Kd.N_reads' HO115.out).2.1);rintro e w28 ⟨rfl,hb⟩;refine⟨_,rfl,?_⟩;replace HO108:=zA (Kd.N_below (by(with_reducible repeat(first|apply Kd.N_alloc|apply Kd.N_drewN|apply Kd.N_drew));exact(Kd.N_mono (Kd.N_far (p:=⟨gb117,2,none⟩) (Kd.N_far (p:=⟨gb117,1,none⟩) (Kd.N_far (p:=⟨gb117,0,none⟩) (Kd.N_mono HO108.out (fun k_ hk=> (⟨hk,hk.2⟩:_∧k_≠gb117))) (fun _ hk=>hk.2) (.int .i64 t111)) (fun _ hk=>hk.2) (.int .i64 t112)) (fun _ hk=>hk.2) (.slice Ao26 t113.length co26)) (fun _ h_=>h_.1))) hb);replace HO115:=zA (Kd.N_below (by(with_reducible repeat(first|apply Kd.N_alloc|apply Kd.N_drewN|apply Kd.N_drew));exact(Kd.N_mono (Kd.N_far (p:=⟨gb117,2,none⟩) (Kd.N_far (p:=⟨gb117,1,none⟩) (Kd.N_far (p:=⟨gb117,0,none⟩) (Kd.N_mono HO115.out (fun k_ hk=> (⟨hk,hk.2⟩:_∧k_≠gb117))) (fun _ hk=>hk.2) (.int .i64 t111)) (fun _ hk=>hk.2) (.int .i64 t112)) (fun _ hk=>hk.2) (.slice Ao26 t113.length co26)) (fun _ h_=>h_.1))) hb);replace BK101:=zA (qX BK101.out hb);replace BK110:=zA (qX BK110.out hb);replace BK117:=zA (zX (g:=gb117) (o:= .cells #[.int .i64 t111,.int .i64 t112,.slice Ao26 t113.length co26] 99 (0,0)) (qV BK117.out) hb);replace HB:=zA (zV qB hb);(try clear hb))|(go_at_call 82;(with_reducible refine(cF.calls true _ A10.out).mono ?_);rintro e w29 ⟨rfl,hb⟩;replace HO108:=zA (Kd.N_below (qN_ HO108.out) hb);replace HO115:=zA (Kd.N_below (qN_ HO115.out) hb);replace BK101:=zA (qX BK101.out hb);replace BK110:=zA (qX BK110.out hb);replace BK117:=zA (qX BK117.out hb);replace HB:=zA (zV qB hb);(try clear hb)))
     go_ret;exact⟨qE,qB⟩
    replace c11:=Bool.eq_false_iff.mpr c11;subst c11;have H1:(some false)=some true:=by first|(rw[if_neg (show ¬ (false=true) by decide)] at H;exact H)|rfl
    clear H;have H:=H1;clear H1;exact absurd H (by simp)
   rw[if_neg c9] at H;have c9b0:(t109==t116)=false:=beq_eq_false_iff_ne.mpr c9;have c9b1:(t109 != t116)=true:=bne_iff_ne.mpr c9;exact absurd H (by simp)
  replace c8:=Bool.eq_false_iff.mpr c8;subst c8;have H1:(some false)=some true:=by first|(rw[if_neg (show ¬ (false=true) by decide)] at H;exact H)|rfl
  clear H;have H:=H1;clear H1;exact absurd H (by simp)
 replace c4:=Bool.eq_false_iff.mpr c4
 subst c4
 have H1:((cF.f).bind fun t103=> (if t103=true then(some true)else(some false)))=some true:=by first|(rw[if_neg (show ¬ (false=true) by decide)] at H;exact H)|rfl
 clear H
 have H:=H1
 clear H1
 obtain⟨t103,A30,H⟩:=qD_ H
 (try dsimp only at H)
 by_cases c31:t103=true
 ·subst c31
  have H1:(some true)=some true:=by first|(rw[if_pos rfl] at H;exact H)|rfl
  clear H;have H:=H1;clear H1;clear H;go_enter Try.func20,Try.ntmps20;go_wp2_with (first|((with_reducible refine gate_dst (N:=3) rfl ?_);refine box_event qr (N:=3) qr (cs:= #[.int .i64 a1_0,.int .i64 a1_1,.int .i64 a1_2,.int .i64 a1_3]) (t:=97) qg ?_;intro gb101 hg w32 hbox hb;have BK101:=zA (hbox);have GW101:=zA ((qS:w.heap.size≤gb101));have GE101:=zA ((qS:w.heap.size≤gb101));replace HB:=zA (zV qB hb);clear hb hbox hg)|((with_reducible refine zJq (f:=60) rfl ?_);refine goesL_ (some 10) rfl rfl Try.func60 (by kernel_rfl) rfl #[.slice A0 l0.length c0] rfl qG ?_;(with_reducible refine(aW.calls k _ _ l0 false _ ?side1 ?side2 A3.out).mono ?_);(case side1=>exact qC (Kd.C_below HR0.out HB.out));(case side2=>exact HC0.out);rintro e w' ⟨rfl,⟨nd,rfl⟩⟩;refine⟨_,rfl,?_⟩)|((with_reducible refine zJq (f:=82) rfl ?_);refine goesL_ (some 12) rfl rfl Try.func82 (by kernel_rfl) rfl #[] rfl qG ?_;(with_reducible refine(cF.calls true _ A30.out).mono ?_);rintro e w33 ⟨rfl,hb⟩;refine⟨_,rfl,?_⟩;replace BK101:=zA (qX BK101.out hb);replace HB:=zA (zV qB hb);(try clear hb)));go_ret;exact⟨qE,qB⟩
 replace c31:=Bool.eq_false_iff.mpr c31
 subst c31
 have H1:(some false)=some true:=by first|(rw[if_neg (show ¬ (false=true) by decide)] at H;exact H)|rfl
 clear H
 have H:=H1
 clear H1
 exact absurd H (by simp)
def bZ.Pure:Prop:= ∀ (l0:List (S71)) (a1_0:Int) (a1_1:Int) (a1_2:Int) (a1_3:Int),(l0.length≤maxLen∧∀ x ∈ l0,((Lit.int .i64 x.f0).wf=true∧(Lit.int .i64 x.f1).wf=true∧(Lit.int .i64 x.f2).wf=true∧(Lit.int .i64 x.f3).wf=true∧(x.f4.length≤maxLen∧∀ y ∈ x.f4,y.size≤maxLen)))→(Lit.int .i64 a1_0).wf=true→(Lit.int .i64 a1_1).wf=true→(Lit.int .i64 a1_2).wf=true→(Lit.int .i64 a1_3).wf=true→∃ k,bZ.f k l0 a1_0 a1_1 a1_2 a1_3=some true
end Go.Proofs.Ytefhljhpcpajgaa.F
set_option linter.unusedVariables false
namespace Go.Proofs.Ytefhljhpcpajgaa.Q
open Go.RowKit
def sumI (l:List Int):Int:=l.foldr (· + ·) 0
theorem sumI_cons (a:Int) (l:List Int):sumI (a::l)=a+sumI l:=rfl
theorem sumI_append (a b:List Int):sumI (a++b)=sumI a+sumI b:=by
  induction a with
  |nil=>simp[sumI]
  |cons x a ih=>rw[List.cons_append,sumI_cons,sumI_cons,ih];omega
theorem sumI_mul (l:List Int) (c:Int):sumI (l.map (fun x=>c * x))=c * sumI l:=by
  induction l with
  |nil=>simp[sumI]
  |cons x l ih=>rw[List.map_cons,sumI_cons,sumI_cons,ih,Int.mul_add]
theorem sumI_add {α:Type} (l:List α) (f g:α→Int):sumI (l.map (fun x=>f x+g x))=sumI (l.map f)+sumI (l.map g):=by
  induction l with
  |nil=>simp[sumI]
  |cons x l ih=>simp only[List.map_cons,sumI_cons,ih];omega
theorem sumI_nonneg {l:List Int} (h: ∀ x ∈ l,0≤x):0≤sumI l:=by
  induction l with
  |nil=>simp[sumI]
  |cons x l ih=>
    have:=h x List.mem_cons_self
    have:=ih (fun y hy=>h y (List.mem_cons_of_mem _ hy))
    rw[sumI_cons];omega
theorem sumI_mem_le {l:List Int} (h: ∀ x ∈ l,0≤x) {a:Int} (ha:a ∈ l):a≤sumI l:=by
  induction l with
  |nil=>cases ha
  |cons x l ih=>
    have h0:=h x List.mem_cons_self
    have h1:=sumI_nonneg (fun y hy=>h y (List.mem_cons_of_mem _ hy))
    rw[sumI_cons]
    rcases List.mem_cons.1 ha with rfl|ha
    · omega
    have:=ih (fun y hy=>h y (List.mem_cons_of_mem _ hy)) ha;omega
theorem countP_sum {α:Type} (p:α→Bool) (l:List α):((l.countP p:Nat):Int)=sumI (l.map (fun x=>if p x=true then 1 else 0)):=by
  induction l with
  |nil=>simp[sumI]
  |cons x l ih=>
    rw[List.map_cons,sumI_cons,List.countP_cons,←ih]
    split <;> omega
def prt (t s w:Int):Int:=t * w / s
def rst (t s w:Int):Int:=t * w % s
def leftI (t s:Int) (l:List Int):Int:=t - sumI (l.map (prt t s))
theorem left_mul {t s:Int} {l:List Int} (hs:sumI l=s):leftI t s l * s=sumI (l.map (rst t s)):=by
  have e:sumI (l.map (fun w=>t * w))=sumI (l.map (fun w=>s * prt t s w))+sumI (l.map (rst t s)):=by
    rw[←sumI_add]
    congr 1
    refine List.map_congr_left fun w _=>?_
    unfold prt rst
    rw[Int.add_comm]
    exact(Int.emod_add_mul_ediv (t * w) s).symm
  have e2:sumI (l.map (fun w=>s * prt t s w))=s * sumI (l.map (prt t s)):=by
    rw[←sumI_mul,List.map_map];rfl
  rw[sumI_mul,hs] at e
  unfold leftI
  rw[Int.sub_mul,e,e2,Int.mul_comm s]
  omega
theorem sum_rests {t s:Int} (hs:0 < s) (l:List Int):0≤sumI (l.map (rst t s))∧sumI (l.map (rst t s))≤((l.countP (fun w=>decide (0 < rst t s w)):Nat):Int) *(s - 1):=by
  induction l with
  |nil=>simp[sumI]
  |cons w l ih=>
    have h0:0≤rst t s w:=Int.emod_nonneg _ (by omega)
    have h1:rst t s w < s:=Int.emod_lt_of_pos _ hs
    rw[List.map_cons,sumI_cons,List.countP_cons]
    refine⟨by omega,?_⟩
    by_cases h:0 < rst t s w
    · rw[if_pos (decide_eq_true h),Int.natCast_add,Int.add_mul]
      omega
    rw[if_neg (by simpa using h)]
    simp only[Int.natCast_add,Int.natCast_zero,Int.add_zero]
    omega
theorem left_bound {t s:Int} {l:List Int} (hs:sumI l=s) (h0:0 < s):0≤leftI t s l∧leftI t s l≤((l.countP (fun w=>decide (0 < rst t s w)):Nat):Int)∧(leftI t s l=0∨leftI t s l < ((l.countP (fun w=>decide (0 < rst t s w)):Nat):Int)):=by
  have e:=left_mul (t:=t) hs
  obtain⟨h1,h2⟩:=sum_rests (t:=t) h0 l
  rw[←e] at h1 h2
  have p0:0≤leftI t s l:=Int.nonneg_of_mul_nonneg_left h1 h0
  have hC0:(0:Int)≤((l.countP (fun w=>decide (0 < rst t s w)):Nat):Int):=Int.natCast_nonneg _
  generalize hL:leftI t s l=L at *
  generalize ((l.countP (fun w=>decide (0 < rst t s w)):Nat):Int)=C at *
  have p1:L * s≤C * s - C:=by rw[Int.mul_sub,Int.mul_one] at h2;exact h2
  have p2:L=0∨L < C:=by
    apply Classical.byContradiction
    intro hn
    have h3:0 < L∧C≤L:=by omega
    have h4:C * s≤L * s:=Int.mul_le_mul_of_nonneg_right h3.2 (by omega)
    have h5:0 < L * s:=Int.mul_pos h3.1 h0
    by_cases hC:0 < C
    · omega
    have:C * s≤0:=by
      have:=Int.mul_le_mul_of_nonneg_right (show C≤0 by omega) (show 0≤s by omega)
      rwa [Int.zero_mul] at this
    have:C *(s - 1)≤0:=by
      have:=Int.mul_le_mul_of_nonneg_right (show C≤0 by omega) (show 0≤s - 1 by omega)
      rwa [Int.zero_mul] at this
    omega
  refine⟨p0,?_,p2⟩
  rcases p2 with h|h
  · omega
  omega
def wt (l:List Int) (i:Nat):Int:=l.getD i 0
def outAt (t s:Int) (l:List Int) (i:Nat):Int:=prt t s (wt l i)+if(rank (fun j=>rst t s (wt l j)) l.length i:Int) < leftI t s l then 1 else 0
def outL (t s:Int) (l:List Int):List Int:=(List.range l.length).map (outAt t s l)
theorem range_map {α:Type} [Inhabited α] (l:List α) (d:α):(List.range l.length).map (fun i=>l.getD i d)=l:=by
  apply List.ext_getElem
  · simp
  intro i h1 h2
  simp[List.getD_eq_getElem?_getD,h2]
theorem out_sum {t s:Int} {l:List Int} (hs:sumI l=s) (h0:0 < s):sumI (outL t s l)=t:=by
  obtain⟨b0,b1,_⟩:=left_bound (t:=t) hs h0
  have hl:l.countP (fun w=>decide (0 < rst t s w))≤l.length:=List.countP_le_length
  obtain⟨L,hL⟩:=Int.eq_ofNat_of_zero_le b0
  have e1:outL t s l=(List.range l.length).map (fun i=>prt t s (wt l i)+if decide (rank (fun j=>rst t s (wt l j)) l.length i < L)=true then 1 else 0):=by
    unfold outL outAt
    refine List.map_congr_left fun i _=>?_
    rw[hL]
    congr 1
    by_cases h:rank (fun j=>rst t s (wt l j)) l.length i < L
    · rw[if_pos (by omega),if_pos (by simpa using h)]
    rw[if_neg (by omega),if_neg (by simpa using h)]
  have e2:sumI ((List.range l.length).map (fun i=>prt t s (wt l i)))=sumI (l.map (prt t s)):=by
    have h:(List.range l.length).map (fun i=>prt t s (wt l i))=l.map (prt t s):=by
      have:=congrArg (List.map (prt t s)) (range_map l 0)
      rw[List.map_map] at this
      exact this
    rw[h]
  rw[e1,sumI_add,e2,←countP_sum,rank_count _ _ L (by omega)]
  unfold leftI at hL
  omega
theorem left_zero {s:Int} {l:List Int} :leftI 0 s l=0:=by
  unfold leftI
  have:l.map (prt 0 s)=l.map (fun x=>0 * x):=List.map_congr_left fun x _=>by unfold prt;simp
  rw[this,sumI_mul];simp
end Go.Proofs.Ytefhljhpcpajgaa.Q
namespace Go.Proofs.Ytefhljhpcpajgaa.Q
open Go.RowKit Ytefhljhpcpajgaa.F YtefhljhpcpajgaaW.PrintWords YtefhljhpcpajgaaW.PrintLast YtefhljhpcpajgaaW.PrintMore
def amt (n:Int):Prop:= -1000000000000≤n∧n≤1000000000000
instance (n:Int):Decidable (amt n):=by unfold amt;infer_instance
def toldS (n:Int):Int × Int:=if amt n then(n,0)else(0,8)
def sumS:Int→List Int→Int × Int
  |n,[] => (n,0)
  |n,x::xs=>if amt x∧amt (n+x)then sumS (n+x) xs else(0,8)
theorem in_f (n:Int):bK.f n=some (decide (amt n)):=by
  unfold bK.f amt
  by_cases h:n≥-1000000000000
  · rw[if_pos h];congr 1;exact decide_eq_decide.2 ⟨fun a=> ⟨h,a⟩,fun a=>a.2⟩
  rw[if_neg h];congr 1;exact(decide_eq_false (fun a=>h a.1)).symm
theorem told_f (n:Int):cW.f n=some (toldS n):=by
  unfold cW.f toldS
  rw[in_f]
  by_cases h:amt n
  · simp[h]
  simp[h]
theorem cents_Add_l0 {l : List Int} (hl : l.length < 9223372036854775807) (d : Nat) : ∀ (i : Nat) (n : Int), l.length - i = d → i ≤ l.length → amt n →
    Ev (fun k=>aZ.l0 k n l (l.length:Int) (i:Int)) (sumS n (l.drop i)):=by
  induction d with
  |zero=>
    intro i n hd hi hn
    refine Ev.step (fun k=>by simp only[aZ.l0];rfl) ?_
    refine Ev.neg (by omega) (Ev.ok ?_)
    rw[List.drop_eq_nil_of_le (by omega)];rfl
  |succ d ih=>
    intro i n hd hi hn
    have h:i < l.length:=by omega
    refine Ev.step (fun k=>by simp only[aZ.l0];rfl) ?_
    refine Ev.pos (by omega) (Ev.pos (by omega) (Ev.pos (by omega) ?_))
    rw[drop_cons h,rd_nat h]
    refine Q.Ev.bindc (in_f _) ?_
    by_cases h1:amt l[i]
    · refine Ev.pos (decide_eq_true h1) ?_
      have hw:wrap64 (n+l[i])=n+l[i] :=by unfold amt at hn h1;exact wrap_eq (by omega) (by omega)
      rw[hw]
      refine Q.Ev.bindc (in_f _) ?_
      by_cases h2:amt (n+l[i])
      · refine Ev.pos (decide_eq_true h2) ?_
        simp only[sumS]
        rw[if_pos ⟨h1,h2⟩,wrap_eq (by omega) (by omega)]
        exact ih (i+1) _ (by omega) (by omega) h2
      refine Ev.neg (by simp[h2]) (Ev.ok ?_)
      simp only[sumS];rw[if_neg (fun a=>h2 a.2)]
    refine Ev.neg (by simp[h1]) (Ev.ok ?_)
    simp only[sumS];rw[if_neg (fun a=>h1 a.1)]
theorem amt0:amt 0:=by unfold amt;omega
theorem cents_Add_f {l:List Int} (hl:l.length < 9223372036854775807):Ev (fun k=>aZ.f k l) (sumS 0 l):=by
  unfold aZ.f
  exact cents_Add_l0 hl l.length 0 0 (by omega) (by omega) amt0
theorem and32 {x:Int} (h0:0≤x) (h1:x < 18446744073709551616):Go.bits .and .u64 x 4294967295=x % 4294967296:=
  Go.bits_mask .u64 64 (by decide) (fun n h0 h1=>u64_eq h0 h1) 32 (by decide) x h0 h1
theorem mul64_f {a b : Int} (ha0 : 0 ≤ a) (ha : a < 18446744073709551616) (hb0 : 0 ≤ b) (hb : b < 18446744073709551616) :
    dB.f a b=some (a * b / 18446744073709551616,a * b % 18446744073709551616):=by
  unfold dB.f
  rw[and32 ha0 ha,and32 hb0 hb]
  obtain⟨ah,hah⟩: ∃ x,x=a / 4294967296:=⟨_,rfl⟩
  obtain⟨al,hal⟩: ∃ x,x=a % 4294967296:=⟨_,rfl⟩
  obtain⟨bh,hbh⟩: ∃ x,x=b / 4294967296:=⟨_,rfl⟩
  obtain⟨bl,hbl⟩: ∃ x,x=b % 4294967296:=⟨_,rfl⟩
  rw[←hah,←hal,←hbh,←hbl]
  have ea:a=ah * 4294967296+al:=by omega
  have eb:b=bh * 4294967296+bl:=by omega
  have bnd: ∀ x y:Int,0≤x→x≤4294967295→0≤y→y≤4294967295→0≤x * y∧x * y≤18446744065119617025:=by
    intro x y hx0 hx hy0 hy
    refine⟨Int.mul_nonneg hx0 hy0,?_⟩
    have:=Int.mul_le_mul hx hy hy0 (by omega)
    omega
  obtain⟨p,hp⟩: ∃ x,x=ah * bh:=⟨_,rfl⟩
  obtain⟨q,hq⟩: ∃ x,x=ah * bl:=⟨_,rfl⟩
  obtain⟨r,hr⟩: ∃ x,x=al * bh:=⟨_,rfl⟩
  obtain⟨s,hs⟩: ∃ x,x=al * bl:=⟨_,rfl⟩
  have bp:=bnd ah bh (by omega) (by omega) (by omega) (by omega)
  have bq:=bnd ah bl (by omega) (by omega) (by omega) (by omega)
  have br:=bnd al bh (by omega) (by omega) (by omega) (by omega)
  have bs:=bnd al bl (by omega) (by omega) (by omega) (by omega)
  have e:a * b=p * 18446744073709551616+(q+r) * 4294967296+s:=by
    rw[ea,eb,hp,hq,hr,hs]
    simp only[Int.add_mul,Int.mul_add]
    rw[show ah * 4294967296 *(bh * 4294967296)=ah * bh * 18446744073709551616 by rw[Int.mul_assoc,Int.mul_left_comm 4294967296 bh,Int.mul_assoc ah bh];rfl,show ah * 4294967296 * bl=ah * bl * 4294967296 by rw[Int.mul_right_comm],show al *(bh * 4294967296)=al * bh * 4294967296 by rw[Int.mul_assoc]]
    omega
  rw[←hp] at bp
  rw[←hq] at bq
  rw[←hr] at br
  rw[←hs] at bs
  rw[←hp,←hq,←hr,←hs,e]
  clear e hp hq hr hs ea eb hah hal hbh hbl
  rw[u64_eq (x:=p) (by omega) (by omega),u64_eq (x:=q) (by omega) (by omega),u64_eq (x:=r) (by omega) (by omega),u64_eq (x:=s) (by omega) (by omega)]
  rw[u64_eq (x:=q+s / 4294967296) (by omega) (by omega)]
  rw[u64_eq (x:=p+(q+s / 4294967296) / 4294967296) (by omega) (by omega)]
  rw[and32 (x:=q+s / 4294967296) (by omega) (by omega)]
  rw[u64_eq (x:=(q+s / 4294967296) % 4294967296+r) (by omega) (by omega)]
  rw[u64_eq (x:=p+(q+s / 4294967296) / 4294967296+((q+s / 4294967296) % 4294967296+r) / 4294967296) (by omega) (by omega)]
  have hw:IntKind.u64.wrap (p * 18446744073709551616+(q+r) * 4294967296+s)=(p * 18446744073709551616+(q+r) * 4294967296+s) % 18446744073709551616:=by simp[IntKind.wrap,IntKind.signed,IntKind.bits]
  rw[hw]
  congr 2
  omega
theorem product_f {a b : Int} (ha0 : 0 ≤ a) (ha : a < 18446744073709551616) (hb0 : 0 ≤ b) (hb : b < 18446744073709551616) :
    cC.f a b=some (a * b / 18446744073709551616,a * b % 18446744073709551616):=by
  unfold cC.f
  rw[mul64_f ha0 ha hb0 hb]
  rfl
theorem above_f {x y:Int} (hx0:0≤x) (hy0:0≤y):cH.f (x / 18446744073709551616) (x % 18446744073709551616) (y / 18446744073709551616) (y % 18446744073709551616)=some (decide (x > y)):=by
  unfold cH.f
  split
  · exact congrArg some (decide_eq_true (by omega)).symm
  split
  · exact congrArg some (decide_eq_decide.2 (by omega))
  exact congrArg some (decide_eq_false (by omega)).symm
end Go.Proofs.Ytefhljhpcpajgaa.Q
set_option maxRecDepth 4000
namespace Go.Proofs.Ytefhljhpcpajgaa.Q
open Go.RowKit Ytefhljhpcpajgaa.F YtefhljhpcpajgaaW.PrintWords YtefhljhpcpajgaaW.PrintLast YtefhljhpcpajgaaW.PrintMore
abbrev tab8:ByteArray:=(⟨#[0,1,2,2,3,3,3,3,4,4,4,4,4,4,4,4,5,5,5,5,5,5,5,5,5,5,5,5,5,5,5,5,6,6,6,6,6,6,6,6,6,6,6,6,6,6,6,6,6,6,6,6,6,6,6,6,6,6,6,6,6,6,6,6,7,7,7,7,7,7,7,7,7,7,7,7,7,7,7,7,7,7,7,7,7,7,7,7,7,7,7,7,7,7,7,7,7,7,7,7,7,7,7,7,7,7,7,7,7,7,7,7,7,7,7,7,7,7,7,7,7,7,7,7,7,7,7,7,8,8,8,8,8,8,8,8,8,8,8,8,8,8,8,8,8,8,8,8,8,8,8,8,8,8,8,8,8,8,8,8,8,8,8,8,8,8,8,8,8,8,8,8,8,8,8,8,8,8,8,8,8,8,8,8,8,8,8,8,8,8,8,8,8,8,8,8,8,8,8,8,8,8,8,8,8,8,8,8,8,8,8,8,8,8,8,8,8,8,8,8,8,8,8,8,8,8,8,8,8,8,8,8,8,8,8,8,8,8,8,8,8,8,8,8,8,8,8,8,8,8,8,8,8,8,8,8]⟩:ByteArray)
def len8ok (x:Nat):Bool:=let t:=(bt tab8 (x:Int)).toNat;decide (bt tab8 (x:Int)=(t:Int))&&decide (t≤8)&&decide (x < 2 ^ t)&&(x==0||(decide (1≤t)&&decide (2 ^ (t - 1)≤x)))
theorem len8_all:(List.range 256).all len8ok=true:=by decide+kernel
theorem len8 {x:Int} (h0:0≤x) (h1:x < 256): ∃ t:Nat,bt tab8 x=(t:Int)∧t≤8∧x < (2:Int) ^ t∧(0 < x→1≤t∧(2:Int) ^ (t - 1)≤x):=by
  obtain⟨n,rfl⟩:=Int.eq_ofNat_of_zero_le h0
  have h:=List.all_eq_true.1 len8_all n (List.mem_range.2 (by omega))
  unfold len8ok at h
  simp only[Bool.and_eq_true,decide_eq_true_eq,Bool.or_eq_true,beq_iff_eq] at h
  obtain⟨⟨⟨ha,hb⟩,hc⟩,hd⟩:=h
  refine⟨_,ha,hb,by exact_mod_cast hc,fun hp=>?_⟩
  rcases hd with hd|hd
  · omega
  exact⟨hd.1,by exact_mod_cast hd.2⟩
theorem up_pow {x:Int} {m t:Nat} (hx:0≤x) (ht:1≤t) (h1:(2:Int) ^ (t - 1)≤x / 2 ^ m) (h2:x / 2 ^ m < (2:Int) ^ t):(2:Int) ^ (m+t - 1)≤x∧x < (2:Int) ^ (m+t):=by
  have hp:(0:Int) < 2 ^ m:=Int.pow_pos (by decide)
  constructor
  · rw[show m+t - 1=(t - 1)+m by omega,Int.pow_add]
    exact(Int.le_ediv_iff_mul_le hp).1 h1
  rw[Nat.add_comm,Int.pow_add]
  exact(Int.ediv_lt_iff_lt_mul hp).1 h2
theorem len64_j0 {x c:Int} (hx0:0 < x) (hx:x < 4294967296) (hc0:0≤c) (hc:c≤32): ∃ n:Nat,Ev (fun k=>bW.j0 k x c) (c+n)∧1≤n∧n≤32∧(2:Int) ^ (n - 1)≤x∧x < (2:Int) ^ n:=by
  by_cases h1:x≥65536
  · by_cases h2:x / 65536≥256
    · obtain⟨t,e,ht,hlt,hpos⟩:=len8 (x:=x / 65536 / 256 % 256) (by omega) (by omega)
      obtain⟨h3,h4⟩:=hpos (by omega)
      have e2:x / 65536 / 256 % 256=x / 2 ^ 24:=by rw[show(2:Int) ^ 24=16777216 by decide];omega
      rw[e2] at hlt h4
      obtain⟨h5,h6⟩:=up_pow (m:=24) (by omega) h3 h4 hlt
      refine⟨24+t,Ev.step (fun k=>by simp only[bW.j0];rfl) ?_,by omega,by omega,h5,h6⟩
      refine Ev.pos h1 (Ev.pos h2 (Ev.pos (by omega) (Ev.pos (by omega) (Ev.ok ?_))))
      rw[e,wrap_eq (x:=c+16) (by omega) (by omega),wrap_eq (x:=(t:Int)) (by omega) (by omega),wrap_eq (x:=c+16+8) (by omega) (by omega),wrap_eq (by omega) (by omega)]
      omega
    obtain⟨t,e,ht,hlt,hpos⟩:=len8 (x:=x / 65536 % 256) (by omega) (by omega)
    obtain⟨h3,h4⟩:=hpos (by omega)
    have e2:x / 65536 % 256=x / 2 ^ 16:=by rw[show(2:Int) ^ 16=65536 by decide];omega
    rw[e2] at hlt h4
    obtain⟨h5,h6⟩:=up_pow (m:=16) (by omega) h3 h4 hlt
    refine⟨16+t,Ev.step (fun k=>by simp only[bW.j0];rfl) ?_,by omega,by omega,h5,h6⟩
    refine Ev.pos h1 (Ev.neg h2 (Ev.pos (by omega) (Ev.pos (by omega) (Ev.ok ?_))))
    rw[e,wrap_eq (x:=c+16) (by omega) (by omega),wrap_eq (x:=(t:Int)) (by omega) (by omega),wrap_eq (by omega) (by omega)]
    omega
  by_cases h2:x≥256
  · obtain⟨t,e,ht,hlt,hpos⟩:=len8 (x:=x / 256 % 256) (by omega) (by omega)
    obtain⟨h3,h4⟩:=hpos (by omega)
    have e2:x / 256 % 256=x / 2 ^ 8:=by rw[show(2:Int) ^ 8=256 by decide];omega
    rw[e2] at hlt h4
    obtain⟨h5,h6⟩:=up_pow (m:=8) (by omega) h3 h4 hlt
    refine⟨8+t,Ev.step (fun k=>by simp only[bW.j0];rfl) ?_,by omega,by omega,h5,h6⟩
    refine Ev.neg h1 (Ev.pos h2 (Ev.pos (by omega) (Ev.pos (by omega) (Ev.ok ?_))))
    rw[e,wrap_eq (x:=c+8) (by omega) (by omega),wrap_eq (x:=(t:Int)) (by omega) (by omega),wrap_eq (by omega) (by omega)]
    omega
  obtain⟨t,e,ht,hlt,hpos⟩:=len8 (x:=x % 256) (by omega) (by omega)
  obtain⟨h3,h4⟩:=hpos (by omega)
  have e2:x % 256=x:=by omega
  rw[e2] at hlt h4
  refine⟨t,Ev.step (fun k=>by simp only[bW.j0];rfl) ?_,by omega,by omega,h4,hlt⟩
  refine Ev.neg h1 (Ev.neg h2 (Ev.pos (by omega) (Ev.pos (by omega) (Ev.ok ?_))))
  rw[e,wrap_eq (x:=(t:Int)) (by omega) (by omega),wrap_eq (by omega) (by omega)]
theorem len64_f {x:Int} (hx0:0 < x) (hx:x < 18446744073709551616): ∃ n:Nat,Ev (fun k=>bW.f k x) (n:Int)∧1≤n∧n≤64∧(2:Int) ^ (n - 1)≤x∧x < (2:Int) ^ n:=by
  by_cases h:x≥4294967296
  · obtain⟨n,h1,h2,h3,h4,h5⟩:=len64_j0 (x:=x / 4294967296) (c:=32) (by omega) (by omega) (by omega) (by omega)
    have e2:(4294967296:Int)=2 ^ 32:=by decide
    obtain⟨h6,h7⟩:=up_pow (m:=32) (x:=x) (by omega) h2 (by rw[←e2];exact h4) (by rw[←e2];exact h5)
    refine⟨32+n,?_,by omega,by omega,h6,h7⟩
    unfold bW.f
    refine Ev.pos h ?_
    have:=h1
    rwa [show(32:Int)+n=((32+n:Nat):Int) by omega] at this
  obtain⟨n,h1,h2,h3,h4,h5⟩:=len64_j0 (x:=x) (c:=0) (by omega) (by omega) (by omega) (by omega)
  refine⟨n,?_,by omega,by omega,h4,h5⟩
  unfold bW.f
  refine Ev.neg h ?_
  rwa [Int.zero_add] at h1
theorem u64_mod (x:Int):IntKind.u64.wrap x=x % 18446744073709551616:=by simp[IntKind.wrap,IntKind.signed,IntKind.bits]
theorem digit {Y y1 y0 u d q r U Q : Int} (hY : Y = y1 * 4294967296 + y0) (h1 : 2147483648 ≤ y1) (h0 : 0 ≤ y0) (h0' : y0 < 4294967296) (hu0 : 0 ≤ u) (hu : u < Y) (hd0 : 0 ≤ d) (hd : d < 4294967296)
    (hU:U=u * 4294967296+d) (hQ:Q=U / Y) (hqr:q * y1+r=u) (hq0:0≤q) (hq:q≤4294967297) (hr0:0≤r) (hr:r < 4294967296) (hge:Q≤q):
    ((q≥4294967296∨q < 4294967296∧4294967296 * r+d < q * y0)∧Q≤q - 1∧1≤q∧(r+y1≥4294967296→q - 1=Q))∨(q < 4294967296∧¬ (4294967296 * r+d < q * y0)∧q=Q):=by
  have hYp:0 < Y:=by omega
  have eq:q * Y=(u - r) * 4294967296+q * y0:=by
    rw[hY,Int.mul_add,←Int.mul_assoc,show q * y1=u - r by omega]
  have hlt: ∀ z:Int,Q < z↔U < z * Y:=fun z=>by rw[hQ];exact Int.ediv_lt_iff_lt_mul hYp
  have hQ0:0≤Q:=by rw[hQ];exact Int.ediv_nonneg (by omega) (by omega)
  have brk:Q≤q - 1→r+y1≥4294967296→q - 1=Q:=by
    intro h2 h3
    have h4: ¬ (Q < q - 1):=by
      rw[hlt,Int.sub_mul,eq,hY,Int.one_mul]
      have:(q - 1) * y0≤4294967296 * y0:=Int.mul_le_mul_of_nonneg_right (by omega) h0
      rw[Int.sub_mul,Int.one_mul] at this
      omega
    omega
  by_cases h2:q≥4294967296
  · have h3 : Q < q := by
      have:Q < 4294967296:=by rw[hlt];omega
      omega
    exact .inl ⟨.inl h2,by omega,by omega,brk (by omega)⟩
  by_cases h3:4294967296 * r+d < q * y0
  · have h4:Q < q:=by rw[hlt,eq];omega
    exact .inl ⟨.inr ⟨by omega,h3⟩,by omega,by omega,brk (by omega)⟩
  have h4: ¬ Q < q:=by rw[hlt,eq];omega
  exact .inr ⟨by omega,h3,by omega⟩
theorem rest_word {Y u d U Q:Int} (hY:0 < Y) (hY':Y < 18446744073709551616) (hU:U=u * 4294967296+d) (hQ:Q=U / Y):IntKind.u64.wrap (IntKind.u64.wrap (IntKind.u64.wrap (u * 4294967296)+d) - IntKind.u64.wrap (Q * Y))=U % Y:=by
  simp only[u64_mod]
  have h1:=Int.emod_nonneg U (show Y≠0 by omega)
  have h2:=Int.emod_lt_of_pos U hY
  have h3:U % Y=U - Q * Y:=by rw[Int.emod_def,hQ,Int.mul_comm]
  rw[h3] at h1 h2⊢
  omega
structure Div1 (Y y1 y0:Int):Prop where
  eq:Y=y1 * 4294967296+y0
  lo:2147483648≤y1
  hi:y1 < 4294967296
  z0:0≤y0
  z1:y0 < 4294967296
theorem div_l1 {Y y1 y0 u d s q1 U Q : Int} (D : Div1 Y y1 y0) (hu0 : 0 ≤ u) (hu : u < Y) (hd0 : 0 ≤ d) (hd : d < 4294967296) (hs : 0 ≤ s) (hU : U = u * 4294967296 + d) (hQ : Q = U / Y) (m : Nat) :
    ∀ q r:Int,q * y1+r=u→0≤q→q≤4294967297→0≤r→r < 4294967296→Q≤q→4294967296≤r+m * 2147483648→
    Ev (fun k=>aQ.l1 k Y s y1 y0 d q1 r u q) (IntKind.u64.wrap (IntKind.u64.wrap (q1 * 4294967296)+Q),shr .u64 (U % Y) s):=by
  obtain⟨hY,h1,h1',h0,h0'⟩:=D
  induction m with
  |zero=>intro q r _ _ _ _ _ _ hm;omega
  |succ m ih=>
    intro q r hqr hq0 hq hr0 hr hge hm
    have H:=digit hY h1 h0 h0' hu0 hu hd0 hd hU hQ hqr hq0 hq hr0 hr hge
    have rw_:=rest_word (show 0 < Y by omega) (by omega) hU hQ
    have yes:((q≥4294967296∨q < 4294967296∧4294967296 * r+d < q * y0)∧Q≤q - 1∧1≤q∧(r+y1≥4294967296→q - 1=Q))→Ev (fun k=>aQ.j4 k Y s y1 y0 d q1 r u q true) (IntKind.u64.wrap (IntKind.u64.wrap (q1 * 4294967296)+Q),shr .u64 (U % Y) s):=by
      rintro⟨_,h3,h4,h5⟩
      refine Ev.step (fun k=>by simp only[aQ.j4];rfl) ?_
      refine Ev.pos (by first|trivial|rfl) ?_
      rw[u64_eq (x:=r+y1) (by omega) (by omega),u64_eq (x:=q - 1) (by omega) (by omega)]
      refine Ev.ite (fun h6=>Ev.pos hs (Ev.ok ?_)) (fun h6=>?_)
      · rw[h5 h6,rw_]
      exact ih (q - 1) (r+y1) (by rw[Int.sub_mul];omega) (by omega) (by omega) (by omega) (by omega) h3 (by omega)
    have no:q=Q→Ev (fun k=>aQ.j4 k Y s y1 y0 d q1 r u q false) (IntKind.u64.wrap (IntKind.u64.wrap (q1 * 4294967296)+Q),shr .u64 (U % Y) s):=by
      rintro rfl
      refine Ev.step (fun k=>by simp only[aQ.j4];rfl) ?_
      refine Ev.neg (by decide) (Ev.pos hs (Ev.ok ?_))
      rw[rw_]
    refine Ev.step (fun k=>by simp only[aQ.l1];rfl) ?_
    refine Ev.ite (fun h6=>?_) (fun h6=>?_)
    · rcases H with H|H
      · exact yes H
      omega
    have hb:q * y0≤4294967295 * 4294967295:=Int.mul_le_mul (by omega) (by omega) h0 (by decide)
    have hb0:0≤q * y0:=Int.mul_nonneg hq0 h0
    rw[u64_eq (x:=q * y0) hb0 (by omega),u64_eq (x:=4294967296 * r) (by omega) (by omega),u64_eq (x:=4294967296 * r+d) (by omega) (by omega)]
    rcases H with H|H
    · rw[decide_eq_true (by omega)];exact yes H
    rw[decide_eq_false (by omega)];exact no H.2.2
theorem div_l0 {Y y1 y0 u d d0 s U Q : Int} {R : Int × Int} (D : Div1 Y y1 y0) (hu0 : 0 ≤ u) (hu : u < Y) (hd0 : 0 ≤ d) (hd : d < 4294967296) (hU : U = u * 4294967296 + d) (hQ : Q = U / Y)
    (next:Ev (fun k=>aQ.j2 k Y s y1 y0 u d d0 Q) R) (m:Nat):
    ∀ q r:Int,q * y1+r=u→0≤q→q≤4294967297→0≤r→r < 4294967296→Q≤q→4294967296≤r+m * 2147483648→
    Ev (fun k=>aQ.l0 k Y s y1 y0 u d d0 q r) R:=by
  obtain⟨hY,h1,h1',h0,h0'⟩:=D
  induction m with
  |zero=>intro q r _ _ _ _ _ _ hm;omega
  |succ m ih=>
    intro q r hqr hq0 hq hr0 hr hge hm
    have H:=digit hY h1 h0 h0' hu0 hu hd0 hd hU hQ hqr hq0 hq hr0 hr hge
    have yes:((q≥4294967296∨q < 4294967296∧4294967296 * r+d < q * y0)∧Q≤q - 1∧1≤q∧(r+y1≥4294967296→q - 1=Q))→Ev (fun k=>aQ.j1 k Y s y1 y0 u d d0 q r true) R:=by
      rintro⟨_,h3,h4,h5⟩
      refine Ev.step (fun k=>by simp only[aQ.j1];rfl) ?_
      refine Ev.pos (by first|trivial|rfl) ?_
      rw[u64_eq (x:=r+y1) (by omega) (by omega),u64_eq (x:=q - 1) (by omega) (by omega)]
      refine Ev.ite (fun h6=>?_) (fun h6=>?_)
      · rw[h5 h6];exact next
      exact ih (q - 1) (r+y1) (by rw[Int.sub_mul];omega) (by omega) (by omega) (by omega) (by omega) h3 (by omega)
    have no:q=Q→Ev (fun k=>aQ.j1 k Y s y1 y0 u d d0 q r false) R:=by
      rintro rfl
      refine Ev.step (fun k=>by simp only[aQ.j1];rfl) ?_
      exact Ev.neg (by decide) next
    refine Ev.step (fun k=>by simp only[aQ.l0];rfl) ?_
    refine Ev.ite (fun h6=>?_) (fun h6=>?_)
    · rcases H with H|H
      · exact yes H
      omega
    have hb:q * y0≤4294967295 * 4294967295:=Int.mul_le_mul (by omega) (by omega) h0 (by decide)
    have hb0:0≤q * y0:=Int.mul_nonneg hq0 h0
    rw[u64_eq (x:=q * y0) hb0 (by omega),u64_eq (x:=4294967296 * r) (by omega) (by omega),u64_eq (x:=4294967296 * r+d) (by omega) (by omega)]
    rcases H with H|H
    · rw[decide_eq_true (by omega)];exact yes H
    rw[decide_eq_false (by omega)];exact no H.2.2
theorem guess {Y y1 y0 u d U Q : Int} (D : Div1 Y y1 y0) (hu0 : 0 ≤ u) (hu : u < Y) (hd0 : 0 ≤ d) (hd : d < 4294967296) (hU : U = u * 4294967296 + d) (hQ : Q = U / Y) :
    ∃ q r:Int,IntKind.u64.wrap (Int.tdiv u y1)=q∧IntKind.u64.wrap (u - IntKind.u64.wrap (q * y1))=r∧q * y1+r=u∧0≤q∧q≤4294967297∧0≤r∧r < 4294967296∧Q≤q:=by
  obtain⟨hY,h1,h1',h0,h0'⟩:=D
  have hq0:0≤u / y1:=Int.ediv_nonneg hu0 (by omega)
  have hq:u / y1 < 4294967298:=by rw[Int.ediv_lt_iff_lt_mul (by omega)];omega
  have hm:=Int.emod_def u y1
  have hr0:=Int.emod_nonneg u (show y1≠0 by omega)
  have hr:=Int.emod_lt_of_pos u (show 0 < y1 by omega)
  have hc:u / y1 * y1=u - u % y1:=by rw[Int.mul_comm];omega
  have hcp:0≤u / y1 * y1:=Int.mul_nonneg hq0 (by omega)
  refine⟨u / y1,u % y1,?_,?_,by omega,hq0,by omega,hr0,by omega,?_⟩
  · rw[Int.tdiv_eq_ediv_of_nonneg hu0,u64_eq hq0 (by omega)]
  · rw[hc,u64_eq (x:=u - u % y1) (by omega) (by omega),show u - (u - u % y1)=u % y1 by omega,u64_eq (by omega) (by omega)]
  have hlt:Q < u / y1+1:=by
    rw[hQ,Int.ediv_lt_iff_lt_mul (by omega),hY,Int.mul_add,←Int.mul_assoc,Int.add_mul,hc,Int.one_mul]
    have:0≤(u / y1+1) * y0:=Int.mul_nonneg (by omega) h0
    omega
  omega
theorem shl_at {x y s:Int} {n:Nat} (hs:s=(n:Int)) (hn:n≤64) (h:x * 2 ^ n=y) (h0:0≤y) (h1:y < 18446744073709551616):shl .u64 x s=y:=by
  unfold shl
  rw[hs,Int.toNat_natCast,Nat.min_eq_left (by simpa [IntKind.bits] using hn),h,u64_eq h0 h1]
theorem and32' {x:Int} (h0:0≤x) (h1:x < 18446744073709551616):Go.bits .and .u64 x 4294967295=x % 4294967296:=
  Go.bits_mask .u64 64 (by decide) (fun n h0 h1=>u64_eq h0 h1) 32 (by decide) x h0 h1
theorem div64_f {a b c : Int} (ha0 : 0 ≤ a) (ha : a < c) (hb0 : 0 ≤ b) (hb : b < 18446744073709551616) (hc : c < 18446744073709551616) :
    Ev (fun k=>aQ.f k a b c) ((a * 18446744073709551616+b) / c,(a * 18446744073709551616+b) % c):=by
  have hc0:0 < c:=by omega
  unfold aQ.f
  refine Ev.neg (by omega) (Ev.neg (by omega) ?_)
  by_cases hz:a=0
  · refine Ev.pos hz (Ev.ok ?_)
    subst hz
    rw[Int.zero_mul,Int.zero_add,Int.tdiv_eq_ediv_of_nonneg hb0,Int.tmod_eq_emod_of_nonneg hb0]
    have h1:=Int.ediv_nonneg hb0 (show 0≤c by omega)
    have h2:=Int.ediv_le_self c hb0
    rw[u64_eq h1 (by omega)]
  refine Ev.neg hz ?_
  obtain⟨n,hev,hn1,hn2,hlo,hhi⟩:=len64_f hc0 hc
  obtain⟨s,hs⟩: ∃ s:Nat,s=64 - n:=⟨_,rfl⟩
  have hsn:s+n=64:=by omega
  have hs63:s≤63:=by omega
  obtain⟨p,hp⟩: ∃ p:Int,p=2 ^ s:=⟨_,rfl⟩
  obtain⟨r,hr⟩: ∃ r:Int,r=2 ^ n:=⟨_,rfl⟩
  have hp0:0 < p:=by rw[hp];exact Int.pow_pos (by decide)
  have hr0:0 < r:=by rw[hr];exact Int.pow_pos (by decide)
  have hpr:p * r=18446744073709551616:=by rw[hp,hr,←Int.pow_add,hsn];decide
  have hY1:c * p < 18446744073709551616:=by
    rw[←hpr,Int.mul_comm p r]
    exact Int.mul_lt_mul_of_pos_right (by rw[hr];exact hhi) hp0
  have hY0:9223372036854775808≤c * p:=by
    have h1:(2:Int) ^ (n - 1) * p≤c * p:=Int.mul_le_mul_of_nonneg_right hlo (by omega)
    have h2:(2:Int) ^ (n - 1) * p=9223372036854775808:=by
      rw[hp,←Int.pow_add,show n - 1+s=63 by omega];decide
    omega
  obtain⟨Y,hY⟩: ∃ Y,Y=c * p:=⟨_,rfl⟩
  rw[←hY] at hY0 hY1
  have haY:a * p < Y:=by rw[hY];exact Int.mul_lt_mul_of_pos_right ha hp0
  have hap0:0≤a * p:=Int.mul_nonneg ha0 (by omega)
  have hbr0:0≤b / r:=Int.ediv_nonneg hb0 (by omega)
  have hbr:b / r < p:=by rw[Int.ediv_lt_iff_lt_mul hr0,hpr];exact hb
  have eY:shl .u64 c (s:Int)=Y:=shl_at rfl (by omega) (by rw[hY,hp]) (by omega) hY1
  have ea:shl .u64 a (s:Int)=a * p:=shl_at rfl (by omega) (by rw[hp]) hap0 (by omega)
  have eb:shr .u64 b (n:Int)=b / r:=by
    unfold shr
    rw[Int.toNat_natCast,Nat.min_eq_left (by simpa [IntKind.bits] using hn2),hr]
  have eb2:shl .u64 b (s:Int)=(b * p) % 18446744073709551616:=by
    unfold shl
    rw[Int.toNat_natCast,Nat.min_eq_left (by simp[IntKind.bits];omega),u64_mod,hp]
  have hor:Go.bits .or .u64 (a * p) (b / r)=a * p+b / r:=by
    refine Go.bits_join .u64 64 (by decide) (fun n h0 h1=>u64_eq h0 h1) s (a * p) (b / r) hap0 ?_ ?_ hbr0 ?_ ?_
    · rw[hp];exact Int.mul_emod_left _ _
    · exact Int.lt_trans haY hY1
    · rw[←hp];exact hbr
    have:p≤18446744073709551616:=by
      rw[←hpr]
      have:=Int.mul_le_mul_of_nonneg_left (show(1:Int)≤r by omega) (show 0≤p by omega)
      omega
    exact Int.lt_of_lt_of_le hbr this
  obtain⟨u,hu⟩: ∃ u,u=a * p+b / r:=⟨_,rfl⟩
  rw[←hu] at hor
  have huY:u < Y:=by
    have h1:(a+1) * p≤c * p:=Int.mul_le_mul_of_nonneg_right (by omega) (by omega)
    rw[Int.add_mul,Int.one_mul,←hY] at h1
    omega
  have hu0:0≤u:=by omega
  obtain⟨v,hv⟩: ∃ v,v=(b * p) % 18446744073709551616:=⟨_,rfl⟩
  rw[←hv] at eb2
  have hv0:0≤v:=by omega
  have hv1:v < 18446744073709551616:=by omega
  have hbp:b * p=(b / r) * 18446744073709551616+v:=by
    have h1:b * p / 18446744073709551616=b / r:=by
      rw[←hpr,Int.mul_comm p r]
      exact Int.mul_ediv_mul_of_pos_left b r hp0
    have h2:=Int.mul_ediv_add_emod (b * p) 18446744073709551616
    rw[h1,←hv] at h2
    omega
  have hN:(a * 18446744073709551616+b) * p=u * 18446744073709551616+v:=by
    rw[Int.add_mul,hbp,hu,Int.add_mul,Int.mul_right_comm]
    omega
  have ew:IntKind.u64.wrap (wrap64 (64 - (n:Int)))=(s:Int):=by
    rw[wrap_eq (by omega) (by omega),u64_eq (by omega) (by omega)];omega
  have ew2:IntKind.u64.wrap (64 - (s:Int))=(n:Int):=by rw[u64_eq (by omega) (by omega)];omega
  have hlz:Ev (fun k=>bT.f k c) (wrap64 (64 - (n:Int))):=by
    unfold bT.f
    exact Ev.bind hev (Ev.ok rfl)
  refine Ev.bind hlz ?_
  simp only[ew,ew2,eY,ea,eb,eb2,hor]
  have D:Div1 Y (Y / 4294967296) (Go.bits .and .u64 Y 4294967295):=by
    rw[and32' (by omega) hY1]
    exact⟨by omega,by omega,by omega,by omega,by omega⟩
  rw[and32' hv0 hv1]
  refine Ev.pos (by omega) (Ev.pos (by omega) (Ev.neg (by have:=D.lo;omega) ?_))
  obtain⟨y1,hy1⟩: ∃ x,x=Y / 4294967296:=⟨_,rfl⟩
  obtain⟨y0,hy0⟩: ∃ x,x=Go.bits .and .u64 Y 4294967295:=⟨_,rfl⟩
  rw[←hy1,←hy0] at D⊢
  obtain⟨d1,hd1⟩: ∃ x,x=v / 4294967296:=⟨_,rfl⟩
  obtain⟨d0,hd0⟩: ∃ x,x=v % 4294967296:=⟨_,rfl⟩
  rw[←hd1,←hd0]
  obtain⟨U1,hU1⟩: ∃ x,x=u * 4294967296+d1:=⟨_,rfl⟩
  obtain⟨Q1,hQ1⟩: ∃ x,x=U1 / Y:=⟨_,rfl⟩
  obtain⟨R1,hR1⟩: ∃ x,x=U1 % Y:=⟨_,rfl⟩
  obtain⟨U0,hU0⟩: ∃ x,x=R1 * 4294967296+d0:=⟨_,rfl⟩
  obtain⟨Q0,hQ0⟩: ∃ x,x=U0 / Y:=⟨_,rfl⟩
  have hYp:0 < Y:=by omega
  have hR10:0≤R1:=by rw[hR1];exact Int.emod_nonneg _ (by omega)
  have hR1Y:R1 < Y:=by rw[hR1];exact Int.emod_lt_of_pos _ hYp
  have e1:U1=Q1 * Y+R1:=by rw[hQ1,hR1,Int.mul_comm];exact(Int.mul_ediv_add_emod U1 Y).symm
  have hQ1lt:Q1 < 4294967296:=by rw[hQ1,Int.ediv_lt_iff_lt_mul hYp];omega
  have hQ10:0≤Q1:=by rw[hQ1];exact Int.ediv_nonneg (by omega) (by omega)
  have hQ0lt:Q0 < 4294967296:=by rw[hQ0,Int.ediv_lt_iff_lt_mul hYp];omega
  have hQ00:0≤Q0:=by rw[hQ0];exact Int.ediv_nonneg (by omega) (by omega)
  have hNU:(a * 18446744073709551616+b) * p=U0+(Q1 * 4294967296) * Y:=by
    rw[hN,hU0,Int.mul_right_comm]
    have:Q1 * Y=U1 - R1:=by omega
    rw[this]
    omega
  have hq:(a * 18446744073709551616+b) / c=Q1 * 4294967296+Q0:=by
    rw[←Int.mul_ediv_mul_of_pos_left _ c hp0,←hY,hNU,Int.add_mul_ediv_right _ _ (by omega),←hQ0]
    omega
  have hm:(a * 18446744073709551616+b) % c=(U0 % Y) / p:=by
    have h1:(a * 18446744073709551616+b) * p % (c * p)=(a * 18446744073709551616+b) % c * p:=by
      rw[Int.mul_comm _ p,Int.mul_comm c p,Int.mul_emod_mul_of_pos _ _ hp0,Int.mul_comm]
    rw[←hY,hNU,Int.add_mul_emod_self_right] at h1
    rw[h1,Int.mul_ediv_cancel _ (by omega)]
  have last:shr .u64 (U0 % Y) (s:Int)=(a * 18446744073709551616+b) % c:=by
    rw[hm,hp]
    unfold shr
    rw[Int.toNat_natCast,Nat.min_eq_left (by simp[IntKind.bits];omega)]
  have res:(IntKind.u64.wrap (IntKind.u64.wrap (Q1 * 4294967296)+Q0),shr .u64 (U0 % Y) (s:Int))=((a * 18446744073709551616+b) / c,(a * 18446744073709551616+b) % c):=by
    rw[last,hq,u64_eq (x:=Q1 * 4294967296) (by omega) (by omega),u64_eq (by omega) (by omega)]
  rw[←res]
  obtain⟨q,rr,g1,g2,g3,g4,g5,g6,g7,g8⟩:=guess D hu0 huY (by omega) (by omega) hU1 hQ1
  rw[g1,g2]
  refine div_l0 D hu0 huY (by omega) (by omega) hU1 hQ1 ?_ 2 q rr g3 g4 g5 g6 g7 g8 (by omega)
  refine Ev.step (fun k=>by simp only[aQ.j2];rfl) ?_
  refine Ev.neg (by have:=D.lo;omega) ?_
  rw[rest_word hYp hY1 hU1 hQ1,←hR1]
  obtain⟨q',r',g1,g2,g3,g4,g5,g6,g7,g8⟩:=guess D hR10 hR1Y (by omega) (by omega) hU0 hQ0
  rw[g1,g2]
  exact div_l1 D hR10 hR1Y (by omega) (by omega) (by omega) hU0 hQ0 2 q' r' g3 g4 g5 g6 g7 g8 (by omega)
def may (a b c:Int):Prop:=0≤a∧a≤1000000000000∧0≤b∧b≤1000000000000∧c≤1000000000000
instance (a b c:Int):Decidable (may a b c):=by unfold may;infer_instance
def divS (a b c:Int):Int × Int × Int:=if c < 1 then(0,0,2)else if may a b c then(if a * b > c * 1000000000001 then(0,0,8)else(a * b / c,a * b % c,0))else(0,0,8)
def floorS (a b c:Int):Int × Int:=if c < 1 then(0,2)else if may a b c then toldS (a * b / c)else(0,8)
def restS (a b c:Int):Int × Int:=if c < 1 then(0,2)else if may a b c then(if amt (a * b / c)then(a * b % c,0)else(0,8))else(0,8)
theorem mul_bound {x y B C:Int} (hx0:0≤x) (hx:x≤B) (hy0:0≤y) (hy:y≤C):0≤x * y∧x * y≤B * C:=
  ⟨Int.mul_nonneg hx0 hy0,Int.mul_le_mul hx hy hy0 (by omega)⟩
theorem divided_f (a b c:Int) (hc1: -9223372036854775808≤c) (hc2:c≤9223372036854775807):Ev (fun k=>bP.f k a b c) (divS a b c):=by
  unfold bP.f divS
  refine Ev.ite (fun h=>Ev.ok (by rw[if_pos h])) (fun h=>?_)
  rw[if_neg h]
  have bad: ¬ may a b c→(if may a b c then(if a * b > c * 1000000000001 then(0,0,8)else(a * b / c,a * b % c,0))else((0:Int),(0:Int),(8:Int)))=(0,0,8):=fun h=>if_neg h
  refine Ev.ite (fun h1=>Ev.ok (bad (by unfold may;omega)).symm) (fun h1=>?_)
  refine Ev.ite (fun h2=>Ev.ok (bad (by unfold may;omega)).symm) (fun h2=>?_)
  refine Ev.bindc (in_f _) (Ev.ite (fun h3=>?_) (fun h3=>Ev.ok (bad (fun hm=>h3 (decide_eq_true (by unfold may at hm;unfold amt;omega)))).symm))
  refine Ev.bindc (in_f _) (Ev.ite (fun h4=>?_) (fun h4=>Ev.ok (bad (fun hm=>h4 (decide_eq_true (by unfold may at hm;unfold amt;omega)))).symm))
  refine Ev.bindc (in_f _) (Ev.ite (fun h5=>?_) (fun h5=>Ev.ok (bad (fun hm=>h5 (decide_eq_true (by unfold may at hm;unfold amt;omega)))).symm))
  have hm:may a b c:=by
    have:=of_decide_eq_true h3;have:=of_decide_eq_true h4;have:=of_decide_eq_true h5
    unfold amt at *;unfold may;omega
  rw[if_pos hm]
  unfold may at hm
  rw[u64_eq (x:=a) (by omega) (by omega),u64_eq (x:=b) (by omega) (by omega),u64_eq (x:=c) (by omega) (by omega)]
  obtain⟨m0,m1⟩:=mul_bound (x:=a) (y:=b) (B:=1000000000000) (C:=1000000000000) (by omega) (by omega) (by omega) (by omega)
  refine Ev.bindc (product_f (by omega) (by omega) (by omega) (by omega)) ?_
  refine Ev.bindc (product_f (by omega) (by omega) (by omega) (by omega)) ?_
  refine Ev.bindc (above_f m0 (by omega)) ?_
  by_cases h6:a * b > c * 1000000000001
  · rw[if_pos h6]
    exact Ev.pos (decide_eq_true h6) (Ev.ok rfl)
  rw[if_neg h6]
  refine Ev.neg (by simp;omega) (Ev.neg (by dsimp only;omega) ?_)
  refine Ev.bind (div64_f (a:=a * b / 18446744073709551616) (b:=a * b % 18446744073709551616) (by omega) (by omega) (by omega) (by omega) (by omega)) ?_
  have e:a * b / 18446744073709551616 * 18446744073709551616+a * b % 18446744073709551616=a * b:=by omega
  rw[e]
  have d0:0≤a * b / c:=Int.ediv_nonneg m0 (by omega)
  have d1:a * b / c < 1000000000002:=by rw[Int.ediv_lt_iff_lt_mul (by omega)];omega
  have r0:=Int.emod_nonneg (a * b) (show c≠0 by omega)
  have r1:=Int.emod_lt_of_pos (a * b) (show 0 < c by omega)
  refine Ev.ok ?_
  dsimp only
  rw[wrap_eq (by omega) (by omega),wrap_eq (by omega) (by omega)]
theorem divS_cases (a b c:Int):(c < 1∧divS a b c=(0,0,2))∨(1≤c∧¬ may a b c∧divS a b c=(0,0,8))∨(1≤c∧may a b c∧a * b / c > 1000000000000∧divS a b c=(0,0,8))∨(1≤c∧may a b c∧0≤a * b / c∧a * b / c≤1000000000001∧0≤a * b % c∧a * b % c < c∧divS a b c=(a * b / c,a * b % c,0)):=by
  unfold divS
  by_cases h:c < 1
  · exact .inl ⟨h,if_pos h⟩
  rw[if_neg h]
  by_cases h1:may a b c
  · rw[if_pos h1]
    by_cases h2:a * b > c * 1000000000001
    · refine .inr (.inr (.inl ⟨by omega,h1,?_,if_pos h2⟩))
      have:1000000000001≤a * b / c:=by rw[Int.le_ediv_iff_mul_le (by omega)];omega
      omega
    have h3:=h1
    unfold may at h3
    refine .inr (.inr (.inr ⟨by omega,h1,Int.ediv_nonneg (Int.mul_nonneg h3.1 h3.2.2.1) (by omega),?_,Int.emod_nonneg _ (by omega),Int.emod_lt_of_pos _ (by omega),if_neg h2⟩))
    have:a * b / c < 1000000000002:=by rw[Int.ediv_lt_iff_lt_mul (by omega)];omega
    omega
  exact .inr (.inl ⟨by omega,h1,if_neg h1⟩)
theorem toldS_big {n:Int} (h:n > 1000000000000):toldS n=(0,8):=by unfold toldS;rw[if_neg (show ¬ amt n by unfold amt;omega)]
section
variable {a b c:Int} (hc1: -9223372036854775808≤c) (hc2:c≤9223372036854775807)
include hc1 hc2
theorem floor_f:Ev (fun k=>cL.f k a b c) (floorS a b c):=by
  unfold cL.f
  refine Ev.bind (divided_f a b c hc1 hc2) ?_
  unfold floorS
  rcases divS_cases a b c with⟨h,e⟩|⟨h,h1,e⟩|⟨h,h1,h2,e⟩|⟨h,h1,h2,h3,h4,h5,e⟩ <;> rw[e]
  · rw[if_pos h];exact Ev.neg (by decide) (Ev.ok rfl)
  · rw[if_neg (show ¬ c < 1 by omega),if_neg h1];exact Ev.neg (by decide) (Ev.ok rfl)
  · rw[if_neg (show ¬ c < 1 by omega),if_pos h1,toldS_big h2];exact Ev.neg (by decide) (Ev.ok rfl)
  rw[if_neg (show ¬ c < 1 by omega),if_pos h1];exact Ev.pos (by first|trivial|rfl) (Ev.bindc (told_f _) (Ev.ok rfl))
theorem rest_f:Ev (fun k=>cR.f k a b c) (restS a b c):=by
  unfold cR.f
  refine Ev.bind (divided_f a b c hc1 hc2) ?_
  unfold restS
  rcases divS_cases a b c with⟨h,e⟩|⟨h,h1,e⟩|⟨h,h1,h2,e⟩|⟨h,h1,h2,h3,h4,h5,e⟩ <;> rw[e]
  · rw[if_pos h];exact Ev.neg (by decide) (Ev.ok rfl)
  · rw[if_neg (show ¬ c < 1 by omega),if_neg h1];exact Ev.neg (by decide) (Ev.ok rfl)
  · rw[if_neg (show ¬ c < 1 by omega),if_pos h1,if_neg (show ¬ amt (a * b / c) by unfold amt;omega)];exact Ev.neg (by decide) (Ev.ok rfl)
  rw[if_neg (show ¬ c < 1 by omega),if_pos h1]
  refine Ev.pos (by first|trivial|rfl) (Ev.bindc (told_f _) ?_)
  unfold toldS
  dsimp only
  by_cases h6:amt (a * b / c)
  · simp only[if_pos h6];exact Ev.pos (by first|trivial|rfl) (Ev.ok rfl)
  simp only[if_neg h6];exact Ev.neg (by decide) (Ev.ok rfl)
end
def divR (a b c:Int):Int × Int:=if a * b / c > 4000000000000 then(-1,0)else(a * b / c,a * b % c)
theorem ref_l1 {a b c i : Int} {R : Int × Int} (hc : 1 ≤ c) (hc' : c ≤ 1000000000000) (d : Nat) : ∀ n rest : Int, rest.toNat ≤ d → 0 ≤ rest → rest ≤ 10000000000000 → 0 ≤ n → n + rest ≤ 100000000000000 →
    Ev (fun k=>if n+rest / c > 4000000000000 then some (-1,0)else aH.l0 k a b c (n+rest / c) (rest % c) (wrap64 (i - 1))) R→
    Ev (fun k=>aH.l1 k a b c n rest i) R:=by
  induction d with
  |zero=>
    intro n rest hd h0 h1 h2 h3 hR
    obtain rfl:rest=0:=by omega
    refine Ev.step (fun k=>by simp only[aH.l1];rfl) ?_
    refine Ev.neg (by omega) ?_
    rwa [Int.zero_ediv,Int.zero_emod,Int.add_zero] at hR
  |succ d ih=>
    intro n rest hd h0 h1 h2 h3 hR
    refine Ev.step (fun k=>by simp only[aH.l1];rfl) ?_
    refine Ev.ite (fun h=>?_) (fun h=>?_)
    · rw[wrap_eq (x:=n+1) (by omega) (by omega),wrap_eq (x:=rest - c) (by omega) (by omega)]
      have e1:(rest - c) / c=rest / c - 1:=by
        have:=Int.add_mul_ediv_right rest (-1) (show c≠0 by omega)
        rw[show rest+ -1 * c=rest - c by omega] at this
        omega
      have e2:(rest - c) % c=rest % c:=Int.sub_emod_right _ _
      refine ih (n+1) (rest - c) (by omega) (by omega) (by omega) (by omega) (by omega) ?_
      rw[e1,e2,show n+1+(rest / c - 1)=n+rest / c by omega]
      exact hR
    rw[Int.ediv_eq_zero_of_lt h0 (by omega),Int.emod_eq_of_lt h0 (by omega),Int.add_zero] at hR
    exact hR
theorem ref_l0 {a b c : Int} (hc : 1 ≤ c) (hc' : c ≤ 1000000000000) (ha : 0 ≤ a) (ha' : a ≤ 1000000000000) (hb : 0 ≤ b) (hb' : b ≤ 1000000000000) (d : Nat) (hd : d ≤ 41) : ∀ n rest : Int, 0 ≤ rest → rest < c → 0 ≤ n → n ≤ 4000000000000 → n * c + rest = a * (b / 2 ^ d) →
    Ev (fun k=>aH.l0 k a b c n rest ((d:Int) - 1)) (divR a b c):=by
  induction d with
  |zero=>
    intro n rest h0 h1 h2 h3 e
    refine Ev.step (fun k=>by simp only[aH.l0];rfl) ?_
    refine Ev.neg (by omega) (Ev.ok ?_)
    rw[Int.pow_zero,Int.ediv_one] at e
    unfold divR
    have hq:a * b / c=n:=by rw[←e,Int.add_comm,Int.add_mul_ediv_right _ _ (by omega),Int.ediv_eq_zero_of_lt h0 h1];omega
    have hr:a * b % c=rest:=by rw[←e,Int.add_comm,Int.add_mul_emod_self_right,Int.emod_eq_of_lt h0 h1]
    rw[hq,hr,if_neg (by omega)]
  |succ d ih=>
    intro n rest h0 h1 h2 h3 e
    rw[show((d+1:Nat):Int) - 1=(d:Int) by omega]
    refine Ev.step (fun k=>by simp only[aH.l0];rfl) ?_
    rw[u64_eq (x:=(d:Int)) (by omega) (by omega)]
    refine Ev.pos (by omega) (Ev.pos (by omega) ?_)
    have hp:(0:Int) < 2 ^ d:=Int.pow_pos (by decide)
    have hs:shr .i64 b (d:Int)=b / 2 ^ d:=by
      unfold shr
      rw[Int.toNat_natCast,Nat.min_eq_left (by simp[IntKind.bits];omega)]
    rw[hs]
    obtain⟨x,hx⟩: ∃ x,x=b / 2 ^ d:=⟨_,rfl⟩
    rw[←hx]
    have hx0:0≤x:=by rw[hx];exact Int.ediv_nonneg hb (by omega)
    have hxb:x≤b:=by rw[hx];exact Int.ediv_le_self _ hb
    have hx2:b / 2 ^ (d+1)=x / 2:=by rw[hx,Int.pow_succ,Int.ediv_ediv_of_nonneg (by omega)]
    rw[hx2] at e
    have hac0:0≤a / c:=Int.ediv_nonneg ha (by omega)
    have hac:a / c≤a:=Int.ediv_le_self _ ha
    have har0:=Int.emod_nonneg a (show c≠0 by omega)
    have har:=Int.emod_lt_of_pos a (show 0 < c by omega)
    have go: ∀ n0 rest0:Int,0≤rest0→rest0≤3000000000000→0≤n0→n0≤10000000000000→n0 * c+rest0=a * x→Ev (fun k=>aH.j1 k a b c n0 rest0 (d:Int)) (divR a b c):=by
      intro n0 rest0 g0 g1 g2 g3 ge
      refine Ev.step (fun k=>by simp only[aH.j1];rfl) ?_
      refine ref_l1 hc hc' rest0.toNat n0 rest0 (Nat.le_refl _) g0 (by omega) g2 (by omega) ?_
      have hN:n0+rest0 / c=a * x / c:=by rw[←ge,Int.add_comm (n0 * c),Int.add_mul_ediv_right _ _ (by omega)];omega
      have hR:rest0 % c=a * x % c:=by rw[←ge,Int.add_comm (n0 * c),Int.add_mul_emod_self_right]
      have ax0:0≤a * x:=Int.mul_nonneg ha hx0
      refine Ev.ite (fun h4=>Ev.ok ?_) (fun h4=>?_)
      · unfold divR
        have:a * x / c≤a * b / c:=Int.ediv_le_ediv (by omega) (Int.mul_le_mul_of_nonneg_left hxb ha)
        rw[if_pos (by omega)]
      rw[wrap_eq (x:=(d:Int) - 1) (by omega) (by omega)]
      refine ih (by omega) _ _ (Int.emod_nonneg _ (by omega)) (Int.emod_lt_of_pos _ (by omega)) (by rw[hN];exact Int.ediv_nonneg ax0 (by omega)) (by omega) ?_
      rw[hN,hR,←hx,Int.mul_comm (a * x / c)]
      exact Int.mul_ediv_add_emod _ _
    have ex:x=2 *(x / 2)+x % 2:=by omega
    have e2:a * x=2 *(a *(x / 2))+a *(x % 2):=by
      conv=>lhs;rw[ex]
      rw[Int.mul_add,Int.mul_left_comm]
    rw[Int.tmod_eq_emod_of_nonneg hx0]
    refine Ev.ite (fun h4=>?_) (fun h4=>?_)
    · refine Ev.neg (by omega) ?_
      rw[Int.tdiv_eq_ediv_of_nonneg ha,Int.tmod_eq_emod_of_nonneg ha,wrap_eq (x:=2 * n) (by omega) (by omega),wrap_eq (x:=2 * rest) (by omega) (by omega),wrap_eq (x:=a / c) (by omega) (by omega),wrap_eq (x:=2 * n+a / c) (by omega) (by omega),wrap_eq (x:=2 * rest+a % c) (by omega) (by omega)]
      refine go _ _ (by omega) (by omega) (by omega) (by omega) ?_
      rw[e2,←e,h4,Int.mul_one,Int.add_mul,Int.mul_assoc]
      have:=Int.mul_ediv_add_emod a c
      rw[Int.mul_comm] at this
      omega
    rw[wrap_eq (x:=2 * n) (by omega) (by omega),wrap_eq (x:=2 * rest) (by omega) (by omega)]
    refine go _ _ (by omega) (by omega) (by omega) (by omega) ?_
    rw[e2,←e,show x % 2=0 by omega,Int.mul_zero,Int.mul_assoc]
    omega
theorem ref_div_f {a b c:Int} (hc:1≤c) (hm:may a b c):Ev (fun k=>aH.f k a b c) (divR a b c):=by
  unfold may at hm
  unfold aH.f
  have h2:(2:Int) ^ 41=2199023255552:=by decide
  exact ref_l0 hc hm.2.2.2.2 hm.1 hm.2.1 hm.2.2.1 hm.2.2.2.1 41 (by omega) 0 0 (by omega) (by omega) (by omega) (by omega) (by rw[h2,Int.ediv_eq_zero_of_lt hm.2.2.1 (by omega)];omega)
end Go.Proofs.Ytefhljhpcpajgaa.Q
set_option linter.unusedSimpArgs false
namespace Go.Proofs.Ytefhljhpcpajgaa.Q
open Go.RowKit Ytefhljhpcpajgaa.F YtefhljhpcpajgaaW.PrintWords YtefhljhpcpajgaaW.PrintLast YtefhljhpcpajgaaW.PrintMore
theorem even_l0 {n:Nat} (hn:n≤35184372088832) (d:Nat): ∀ i:Nat,n - i=d→i≤n→Ev (fun k=>bV.l0 k (List.replicate i 1++List.replicate (n - i) 0) (n:Int) (i:Int)) (List.replicate n 1):=by
  induction d with
  |zero=>
    intro i hd hi
    obtain rfl:i=n:=by omega
    refine Ev.step (fun k=>by simp only[bV.l0];rfl) ?_
    exact Ev.neg (by omega) (Ev.ok (by simp))
  |succ d ih=>
    intro i hd hi
    refine Ev.step (fun k=>by simp only[bV.l0];rfl) ?_
    refine Ev.pos (by omega) (Ev.pos (by omega) (Ev.pos (by simp;omega) ?_))
    have e:(List.replicate i (1:Int)++List.replicate (n - i) 0).set (i:Int).toNat 1=List.replicate (i+1) 1++List.replicate (n - (i+1)) 0:=by
      rw[Int.toNat_natCast]
      apply List.ext_getElem
      · simp;omega
      intro p h1 h2
      rw[List.getElem_set]
      simp only[List.getElem_append,List.getElem_replicate,List.length_replicate]
      (repeat' split) <;> first|rfl|omega
    rw[e,wrap_eq (by omega) (by omega)]
    exact ih (i+1) (by omega) (by omega)
theorem even_f {n:Nat} (hn:n≤35184372088832):Ev (fun k=>bV.f k (n:Int)) (List.replicate n 1):=by
  unfold bV.f
  refine Ev.pos (by omega) (Ev.pos (by rw[Int.toNat_natCast];exact hn) ?_)
  refine Q.Ev.bindc rfl ?_
  have:=even_l0 hn n 0 (by omega) (by omega)
  simpa using this
def maxS (m:Int) (l:List Int):Int:=l.foldl mx m
theorem max_l0 {l:List Int} (hl:l.length < 9223372036854775807) (d:Nat): ∀ (i:Nat) (m:Int),l.length - i=d→i≤l.length→Ev (fun k=>bD.l0 k l m (i:Int)) (maxS m (l.drop i)):=by
  induction d with
  |zero=>
    intro i m hd hi
    refine Ev.step (fun k=>by simp only[bD.l0];rfl) ?_
    refine Ev.neg (by omega) (Ev.ok ?_)
    rw[List.drop_eq_nil_of_le (by omega)];rfl
  |succ d ih=>
    intro i m hd hi
    have h:i < l.length:=by omega
    refine Ev.step (fun k=>by simp only[bD.l0];rfl) ?_
    refine Ev.pos (by omega) (Ev.pos (by omega) ?_)
    rw[drop_cons h,rd_nat h,wrap_eq (by omega) (by omega)]
    exact ih (i+1) _ (by omega) (by omega)
theorem maxS_zero {l:List Int} : ∀ {m:Int},0≤m→(∀ x ∈ l,0≤x)→(maxS m l=0↔m=0∧sumI l=0):=by
  induction l with
  |nil=>intro m h0 hl;simp[maxS,sumI]
  |cons x l ih=>
    intro m h0 hl
    have hx:=hl x List.mem_cons_self
    have hs:=sumI_nonneg (fun y hy=>hl y (List.mem_cons_of_mem _ hy))
    have:=ih (m:=mx m x) (by unfold mx;split <;> omega) (fun y hy=>hl y (List.mem_cons_of_mem _ hy))
    show maxS (mx m x) l=0↔_
    rw[this,sumI_cons]
    unfold mx
    split <;> omega
theorem max_f {l:List Int} (h1:1≤l.length) (hl:l.length < 9223372036854775807) (h0: ∀ x ∈ l,0≤x): ∃ m,Ev (fun k=>bD.f k l) m∧(m=0↔sumI l=0):=by
  refine⟨maxS (rd l 0) (l.drop 1),?_,?_⟩
  · unfold bD.f
    refine Ev.neg (by omega) (Ev.pos (by omega) ?_)
    have:=max_l0 hl (l.length - 1) 1 (rd l 0) rfl h1
    exact this
  cases l with
  |nil=>simp at h1
  |cons x l=>
    have e:rd (x::l) 0=x:=rfl
    rw[e,List.drop_succ_cons,List.drop_zero,maxS_zero (h0 x List.mem_cons_self) (fun y hy=>h0 y (List.mem_cons_of_mem _ hy)),sumI_cons]
    have:=h0 x List.mem_cons_self
    have:=sumI_nonneg (fun y hy=>h0 y (List.mem_cons_of_mem _ hy))
    omega
def negs (l:List Int):Bool:=l.any fun x=>decide (x < 0)
theorem negs_false {l:List Int} :negs l=false↔ ∀ x ∈ l,0≤x:=by
  unfold negs
  rw[List.any_eq_false]
  exact⟨fun h x hx=>by have:=h x hx;simp at this;omega,fun h x hx=>by have:=h x hx;simp;omega⟩
def wholeS (l:List Int):Int × Int:=if l.length < 1∨200 < l.length then(0,2)else if negs l=true then(0,8)else if 1000000000000 < sumI l then(0,8)else if sumI l=0 then((l.length:Int),0)else(sumI l,0)
theorem sumS_nonneg {l:List Int} : ∀ {n:Int},0≤n→n≤1000000000000→(∀ x ∈ l,0≤x)→sumS n l=if 1000000000000 < n+sumI l then(0,8)else(n+sumI l,0):=by
  induction l with
  |nil=>intro n h0 h1 _;rw[show sumI ([] :List Int)=0 from rfl,if_neg (by omega)];simp[sumS]
  |cons x l ih=>
    intro n h0 h1 h
    have hx:=h x List.mem_cons_self
    have hl:=fun y hy=>h y (List.mem_cons_of_mem _ hy)
    have hs:=sumI_nonneg hl
    simp only[sumS]
    rw[sumI_cons]
    by_cases c:amt x∧amt (n+x)
    · rw[if_pos c,ih (by omega) (by have:=c.2;unfold amt at this;omega) hl]
      rw[show n+x+sumI l=n+(x+sumI l) by omega]
    rw[if_neg c,if_pos (by unfold amt at c;omega)]
theorem whole_l0 {l:List Int} (hl:l.length≤200) (d:Nat): ∀ i:Nat,l.length - i=d→i≤l.length→(∀ x ∈ l.take i,0≤x)→Ev (fun k=>bI.l0 k l l (l.length:Int) (i:Int)) (if negs l=true then(0,8)else if 1000000000000 < sumI l then(0,8)else if sumI l=0 then((l.length:Int),0)else(sumI l,0)):=by
  induction d with
  |zero=>
    intro i hd hi ht
    refine Ev.step (fun k=>by simp only[bI.l0];rfl) ?_
    refine Ev.neg (by omega) ?_
    rw[List.take_of_length_le (by omega)] at ht
    rw[if_neg (by rw[negs_false.2 ht];decide)]
    refine Ev.bind (cents_Add_f (l:=l) (by omega)) ?_
    rw[sumS_nonneg (by omega) (by omega) ht,show(0:Int)+sumI l=sumI l by omega]
    by_cases c:1000000000000 < sumI l
    · rw[if_pos c,if_pos c]
      exact Ev.neg (by decide) (Ev.const rfl)
    rw[if_neg c,if_neg c]
    refine Ev.pos rfl ?_
    exact Q.Ev.ite (fun h=>Ev.ok (by rw[if_pos h])) (fun h=>Ev.ok (by rw[if_neg h]))
  |succ d ih=>
    intro i hd hi ht
    have h:i < l.length:=by omega
    refine Ev.step (fun k=>by simp only[bI.l0];rfl) ?_
    refine Ev.pos (by omega) (Ev.pos (by omega) (Ev.pos (by omega) ?_))
    rw[rd_nat h]
    by_cases c:l[i] < 0
    · refine Ev.pos c (Ev.ok ?_)
      rw[if_pos]
      unfold negs
      exact List.any_eq_true.2 ⟨l[i],List.getElem_mem h,decide_eq_true c⟩
    refine Ev.neg c ?_
    rw[wrap_eq (by omega) (by omega)]
    refine ih (i+1) (by omega) (by omega) (fun x hx=>?_)
    rw[List.take_succ_eq_append_getElem h] at hx
    rcases List.mem_append.1 hx with hx|hx
    · exact ht x hx
    rw[List.mem_singleton.1 hx];omega
theorem whole_f {l:List Int} (hl:l.length < 9223372036854775807):Ev (fun k=>bI.f k l) (wholeS l):=by
  unfold bI.f wholeS
  by_cases h1:l.length < 1
  · refine Ev.pos (by omega) ?_
    refine Ev.step (fun k=>by simp only[bI.j0];rfl) ?_
    exact Ev.pos (by simp) (Ev.ok (by rw[if_pos (.inl h1)]))
  refine Ev.neg (by omega) ?_
  refine Ev.step (fun k=>by simp only[bI.j0];rfl) ?_
  by_cases h2:200 < l.length
  · exact Ev.pos (decide_eq_true (by omega)) (Ev.ok (by rw[if_pos (.inr h2)]))
  refine Ev.neg (by simp;omega) ?_
  rw[if_neg (by omega)]
  exact whole_l0 (by omega) l.length 0 (by omega) (by omega) (by simp)
theorem rwhole_l1 {l:List Int} (hl:l.length≤200) (h0: ∀ x ∈ l,0≤x) (d:Nat): ∀ (i:Nat) (n:Int),l.length - i=d→i≤l.length→0≤n→n≤1000000000000→Ev (fun k=>aG.l1 k l n (i:Int)) (if 1000000000000 < n+sumI (l.drop i)then(0,8)else if n+sumI (l.drop i)=0 then((l.length:Int),0)else(n+sumI (l.drop i),0)):=by
  induction d with
  |zero=>
    intro i n hd hi hn hn2
    refine Ev.step (fun k=>by simp only[aG.l1];rfl) ?_
    refine Ev.neg (by omega) ?_
    rw[List.drop_eq_nil_of_le (by omega),show n+sumI [] =n by simp[sumI],if_neg (show ¬ 1000000000000 < n by omega)]
    exact Q.Ev.ite (fun h=>Ev.ok (by rw[if_pos h])) (fun h=>Ev.ok (by rw[if_neg h]))
  |succ d ih=>
    intro i n hd hi hn hn2
    have h:i < l.length:=by omega
    have hx:=h0 l[i] (List.getElem_mem h)
    have hs:=sumI_nonneg (l:=l.drop (i+1)) (fun y hy=>h0 y (List.mem_of_mem_drop hy))
    refine Ev.step (fun k=>by simp only[aG.l1];rfl) ?_
    refine Ev.pos (by omega) (Ev.pos (by omega) ?_)
    rw[rd_nat h,drop_cons h,sumI_cons]
    by_cases c1:l[i] > 1000000000000
    · refine Ev.pos c1 (Ev.ok ?_);rw[if_pos (by omega)]
    refine Ev.neg c1 ?_
    rw[wrap_eq (by omega) (by omega)]
    by_cases c2:l[i] > 1000000000000 - n
    · refine Ev.pos c2 (Ev.ok ?_);rw[if_pos (by omega)]
    refine Ev.neg c2 ?_
    rw[wrap_eq (by omega) (by omega),wrap_eq (by omega) (by omega),show n+(l[i] +sumI (l.drop (i+1)))=n+l[i] +sumI (l.drop (i+1)) by omega]
    exact ih (i+1) (n+l[i]) (by omega) (by omega) (by omega) (by omega)
theorem rwhole_l0 {l:List Int} (hl:l.length≤200) (d:Nat): ∀ i:Nat,l.length - i=d→i≤l.length→(∀ x ∈ l.take i,0≤x)→Ev (fun k=>aG.l0 k l 0 (i:Int)) (if negs l=true then(0,8)else if 1000000000000 < sumI l then(0,8)else if sumI l=0 then((l.length:Int),0)else(sumI l,0)):=by
  induction d with
  |zero=>
    intro i hd hi ht
    refine Ev.step (fun k=>by simp only[aG.l0];rfl) ?_
    refine Ev.neg (by omega) ?_
    rw[List.take_of_length_le (by omega)] at ht
    rw[if_neg (by rw[negs_false.2 ht];decide)]
    have:=rwhole_l1 hl ht l.length 0 0 (by omega) (by omega) (by omega) (by omega)
    rw[List.drop_zero,show(0:Int)+sumI l=sumI l by omega] at this
    exact this
  |succ d ih=>
    intro i hd hi ht
    have h:i < l.length:=by omega
    refine Ev.step (fun k=>by simp only[aG.l0];rfl) ?_
    refine Ev.pos (by omega) (Ev.pos (by omega) ?_)
    rw[rd_nat h]
    by_cases c:l[i] < 0
    · refine Ev.pos c (Ev.ok ?_)
      rw[if_pos]
      unfold negs
      exact List.any_eq_true.2 ⟨l[i],List.getElem_mem h,decide_eq_true c⟩
    refine Ev.neg c ?_
    rw[wrap_eq (by omega) (by omega)]
    refine ih (i+1) (by omega) (by omega) (fun x hx=>?_)
    rw[List.take_succ_eq_append_getElem h] at hx
    rcases List.mem_append.1 hx with hx|hx
    · exact ht x hx
    rw[List.mem_singleton.1 hx];omega
theorem rwhole_f {l:List Int} (hl:l.length < 9223372036854775807):Ev (fun k=>aG.f k l) (wholeS l):=by
  unfold aG.f wholeS
  by_cases h1:l.length < 1
  · refine Ev.pos (by omega) ?_
    refine Ev.step (fun k=>by simp only[aG.j0];rfl) ?_
    exact Ev.pos (by simp) (Ev.ok (by rw[if_pos (.inl h1)]))
  refine Ev.neg (by omega) ?_
  refine Ev.step (fun k=>by simp only[aG.j0];rfl) ?_
  by_cases h2:200 < l.length
  · exact Ev.pos (decide_eq_true (by omega)) (Ev.ok (by rw[if_pos (.inr h2)]))
  refine Ev.neg (by simp;omega) ?_
  rw[if_neg (by omega)]
  exact rwhole_l0 (by omega) l.length 0 (by omega) (by omega) (by simp)
def eff (l:List Int):List Int:=if sumI l=0 then List.replicate l.length 1 else l
theorem eff_len (l:List Int):(eff l).length=l.length:=by unfold eff;split <;> simp
theorem sumI_ones (n:Nat):sumI (List.replicate n 1)=(n:Int):=by
  induction n with
  |zero=>simp[sumI]
  |succ n ih=>rw[List.replicate_succ,sumI_cons,ih];omega
theorem whole_ok {l:List Int} (h:(wholeS l).2=0):1≤l.length∧l.length≤200∧(∀ x ∈ l,0≤x)∧sumI l≤1000000000000∧1≤(wholeS l).1∧(wholeS l).1≤1000000000000∧sumI (eff l)=(wholeS l).1∧(∀ x ∈ eff l,0≤x):=by
  unfold wholeS at h⊢
  by_cases h1:l.length < 1∨200 < l.length
  · rw[if_pos h1] at h;simp at h
  rw[if_neg h1] at h⊢
  by_cases h2:negs l=true
  · rw[if_pos h2] at h;simp at h
  rw[if_neg h2] at h⊢
  have h0:=negs_false.1 (by simpa using h2)
  have hs:=sumI_nonneg h0
  by_cases h3:1000000000000 < sumI l
  · rw[if_pos h3] at h;simp at h
  rw[if_neg h3] at h⊢
  unfold eff
  by_cases h4:sumI l=0
  · rw[if_pos h4,if_pos h4,sumI_ones]
    refine⟨by omega,by omega,h0,by omega,by dsimp only;omega,by dsimp only;omega,rfl,fun x hx=>?_⟩
    rw[(List.mem_replicate.1 hx).2];omega
  rw[if_neg h4,if_neg h4]
  exact⟨by omega,by omega,h0,by omega,by dsimp only;omega,by dsimp only;omega,rfl,h0⟩
theorem prt_ok {t s w:Int} (ht:0≤t) (ht2:t≤1000000000000) (hs:1≤s) (hw:0≤w) (hws:w≤s):0≤prt t s w∧prt t s w≤t∧0≤rst t s w∧rst t s w < s:=by
  unfold prt rst
  refine⟨Int.ediv_nonneg (Int.mul_nonneg ht hw) (by omega),?_,Int.emod_nonneg _ (by omega),Int.emod_lt_of_pos _ (by omega)⟩
  exact Int.ediv_le_of_le_mul (by omega) (Int.mul_le_mul_of_nonneg_left hws ht)
theorem floor_at {t s w:Int} (ht:0≤t) (ht2:t≤1000000000000) (hs:1≤s) (hs2:s≤1000000000000) (hw:0≤w) (hws:w≤s):floorS t w s=(prt t s w,0):=by
  have h:=prt_ok ht ht2 hs hw hws
  unfold floorS
  rw[if_neg (by omega),if_pos (by unfold may;omega)]
  unfold toldS
  rw[if_pos (by unfold amt;unfold prt at h;omega)]
  rfl
theorem rest_at {t s w:Int} (ht:0≤t) (ht2:t≤1000000000000) (hs:1≤s) (hs2:s≤1000000000000) (hw:0≤w) (hws:w≤s):restS t w s=(rst t s w,0):=by
  have h:=prt_ok ht ht2 hs hw hws
  unfold restS
  rw[if_neg (by omega),if_pos (by unfold may;omega),if_pos (by unfold amt;unfold prt at h;omega)]
  rfl
theorem parts_l0 {t s : Int} {l : List Int} (hl : l.length ≤ 200) (ht : 0 ≤ t) (ht2 : t ≤ 1000000000000) (hs : 1 ≤ s) (hs2 : s ≤ 1000000000000) (h0 : ∀ x ∈ l, 0 ≤ x ∧ x ≤ s) (d : Nat) : ∀ (i : Nat) (L : Int) (A B : List Int), l.length - i = d → i ≤ l.length → A.length = i → B.length = i → L ≤ 1000000000000 → -((i : Int) * 1000000000000) ≤ L →
    Ev (fun k=>bO.l0 k t s A B L l (l.length:Int) (i:Int)) (A++(l.drop i).map (prt t s),B++(l.drop i).map (rst t s),L - sumI ((l.drop i).map (prt t s)),0):=by
  induction d with
  |zero=>
    intro i L A B hd hi hA hB hL hL2
    refine Ev.step (fun k=>by simp only[bO.l0];rfl) ?_
    refine Ev.neg (by omega) (Ev.ok ?_)
    rw[List.drop_eq_nil_of_le (by omega)];simp[sumI]
  |succ d ih=>
    intro i L A B hd hi hA hB hL hL2
    have h:i < l.length:=by omega
    have hx:=h0 l[i] (List.getElem_mem h)
    have hp:=prt_ok ht ht2 hs hx.1 hx.2
    refine Ev.step (fun k=>by simp only[bO.l0];rfl) ?_
    refine Ev.pos (by omega) (Ev.pos (by omega) (Ev.pos (by omega) ?_))
    rw[rd_nat h]
    refine Ev.bind (floor_f (by omega) (by omega)) ?_
    rw[floor_at ht ht2 hs hs2 hx.1 hx.2]
    refine Ev.pos rfl (Ev.bind (rest_f (by omega) (by omega)) ?_)
    rw[rest_at ht ht2 hs hs2 hx.1 hx.2]
    refine Ev.pos rfl (Ev.pos (by omega) (Ev.pos (by omega) ?_))
    dsimp only
    rw[wrap_eq (by omega) (by omega),wrap_eq (by omega) (by omega),drop_cons h]
    have:=ih (i+1) (L - prt t s l[i]) (A++ [prt t s l[i]]) (B++ [rst t s l[i]]) (by omega) (by omega) (by simp[hA]) (by simp[hB]) (by omega) (by omega)
    simp only[List.map_cons,sumI_cons,List.append_assoc,List.singleton_append] at this⊢
    rw[show L - (prt t s l[i] +sumI ((l.drop (i+1)).map (prt t s)))=L - prt t s l[i] - sumI ((l.drop (i+1)).map (prt t s)) by omega]
    exact this
theorem parts_f {t s:Int} {l:List Int} (hl:l.length≤200) (ht:0≤t) (ht2:t≤1000000000000) (hs:1≤s) (hs2:s≤1000000000000) (h0: ∀ x ∈ l,0≤x∧x≤s):Ev (fun k=>bO.f k t s l) (l.map (prt t s),l.map (rst t s),leftI t s l,0):=by
  unfold bO.f
  have:=parts_l0 hl ht ht2 hs hs2 h0 l.length 0 t [] [] (by omega) (by omega) rfl rfl (by omega) (by omega)
  simpa [leftI] using this
theorem rank_ex {r:Nat→Int} {n p:Nat} (hp:p < n): ∃ i,i < n∧rank r n i=p:=by
  apply Classical.byContradiction
  intro hn
  have h1:=rank_count r n p (by omega)
  have h2:=rank_count r n (p+1) (by omega)
  have:(List.range n).countP (fun i=>decide (rank r n i < p+1))=(List.range n).countP (fun i=>decide (rank r n i < p)):=by
    refine List.countP_congr fun i hi=>?_
    have hi:=List.mem_range.1 hi
    rw[decide_eq_true_eq,decide_eq_true_eq]
    have:rank r n i≠p:=fun e=>hn ⟨i,hi,e⟩
    omega
  omega
def atp (r:Nat→Int) (n p:Nat):Nat:=((List.range n).find? fun i=>rank r n i==p).getD 0
theorem atp_spec {r:Nat→Int} {n p:Nat} (hp:p < n):atp r n p < n∧rank r n (atp r n p)=p:=by
  obtain⟨i,hi,e⟩:=rank_ex (r:=r) hp
  unfold atp
  cases hf:(List.range n).find? (fun i=>rank r n i==p)with
  |none=>exact absurd (show(rank r n i==p)=true by rw[e];exact beq_self_eq_true p) (List.find?_eq_none.1 hf i (List.mem_range.2 hi))
  |some j=>
    have h1:=List.find?_some hf
    exact⟨List.mem_range.1 (List.mem_of_find?_eq_some hf),by simpa using h1⟩
theorem atp_iff {r:Nat→Int} {n p i:Nat} (hp:p < n) (hi:i < n):atp r n p=i↔rank r n i=p:=by
  have h:=atp_spec (r:=r) hp
  exact⟨fun e=>e ▸ h.2,fun e=>rank_inj h.1 hi (h.2.trans e.symm)⟩
theorem count_first {r:Nat→Int} {n i:Nat} (hi:i < n): ∀ L,L≤n→(List.range L).countP (fun p=>decide (atp r n p=i))=if rank r n i < L then 1 else 0:=by
  intro L
  induction L with
  |zero=>intro _;simp
  |succ L ih=>
    intro hL
    rw[List.range_succ,List.countP_append,ih (by omega)]
    simp only[List.countP_cons,List.countP_nil,decide_eq_true_eq]
    have:=atp_iff (r:=r) (n:=n) (p:=L) (i:=i) (by omega) hi
    by_cases c:rank r n i=L
    · rw[if_neg (by omega),if_pos (this.2 c),if_pos (by omega)]
    rw[if_neg (fun e=>c (this.1 e))]
    by_cases c2:rank r n i < L
    · rw[if_pos c2,if_pos (by omega)]
    rw[if_neg c2,if_neg (by omega)]
theorem inc_l0 {ys : List Int} (hy : ys.length ≤ 200) (d : Nat) : ∀ (j : Nat) (o : List Int), ys.length - j = d → j ≤ ys.length → o.length ≤ 200 → (∀ y ∈ ys, 0 ≤ y ∧ y < (o.length : Int)) → (∀ x ∈ o, 0 ≤ x ∧ x ≤ 1000000000000 + (j : Int)) →
    Ev (fun k=>bM.l0 k o ys (ys.length:Int) (j:Int)) ((List.range o.length).map (fun i=>o.getD i 0+(((ys.drop j).countP (fun y=>decide (y=(i:Int))):Nat):Int)),0):=by
  induction d with
  |zero=>
    intro j o hd hj ho hr hx
    refine Ev.step (fun k=>by simp only[bM.l0];rfl) ?_
    refine Ev.neg (by omega) (Ev.ok ?_)
    rw[List.drop_eq_nil_of_le (by omega)]
    simp only[List.countP_nil,Int.natCast_zero,Int.add_zero]
    rw[range_map]
  |succ d ih=>
    intro j o hd hj ho hr hx
    have h:j < ys.length:=by omega
    have hyj:=hr ys[j] (List.getElem_mem h)
    obtain⟨q,hq⟩:=Int.eq_ofNat_of_zero_le hyj.1
    have hqo:q < o.length:=by omega
    have hoq:=hx o[q] (List.getElem_mem hqo)
    refine Ev.step (fun k=>by simp only[bM.l0];rfl) ?_
    refine Ev.pos (by omega) (Ev.pos (by omega) (Ev.pos (by omega) ?_))
    rw[rd_nat h,hq]
    refine Ev.pos (by omega) (Ev.pos (by omega) ?_)
    rw[rd_nat hqo,Int.toNat_natCast,wrap_eq (by omega) (by omega),wrap_eq (by omega) (by omega)]
    have:=ih (j+1) (o.set q (o[q] +1)) (by omega) (by omega) (by simpa using ho) (by simpa using hr) (fun x hx'=>by
      rcases List.mem_or_eq_of_mem_set hx' with hx'|rfl
      · have:=hx x hx';omega
      omega)
    rw[drop_cons h]
    refine Ev.eq this ?_
    congr 1
    rw[List.length_set]
    refine List.map_congr_left fun i hi=>?_
    have hi:=List.mem_range.1 hi
    rw[List.countP_cons,hq]
    by_cases c:q=i
    · subst c
      simp only[decide_true,if_true]
      simp[List.getD_eq_getElem?_getD,hqo]
      omega
    rw[if_neg (by simp;omega)]
    simp[List.getD_eq_getElem?_getD,c]
theorem getD_map {f:Int→Int} {l:List Int} {i:Nat} (h:i < l.length):(l.map f).getD i 0=f (wt l i):=by
  unfold wt;simp[List.getD_eq_getElem?_getD,h]
theorem rank_rests {t s:Int} {l:List Int} {i:Nat} (hi:i < l.length):rank (fun j=> (l.map (rst t s)).getD j 0) l.length i=rank (fun j=>rst t s (wt l j)) l.length i:=by
  unfold rank
  refine List.countP_congr fun j hj=>?_
  have hj:=List.mem_range.1 hj
  rw[bef_iff,bef_iff]
  rw[getD_map hi,getD_map hj]
theorem deal_f {t s : Int} {l : List Int} (h1 : 1 ≤ l.length) (hl : l.length ≤ 200) (ht : 0 ≤ t) (ht2 : t ≤ 1000000000000) (hs : sumI l = s) (hs1 : 1 ≤ s) (hs2 : s ≤ 1000000000000) (h0 : ∀ x ∈ l, 0 ≤ x) :
    Ev (fun k=> (bO.f k t s l).bind fun b=>if b.2.2.2=0 then((bY.f (b.1.length:Int) b.2.1).bind fun p=>if 0≤b.2.2.1 then(if b.2.2.1≤(p.length:Int)then((some (p.take (b.2.2.1:Int).toNat:List Int)).bind fun y=>bM.l0 k b.1 y (y.length:Int) 0)else none)else none)else some (([] :List Int),b.2.2.2)) (outL t s l,0):=by
  have hws: ∀ x ∈ l,0≤x∧x≤s:=fun x hx=> ⟨h0 x hx,by rw[←hs];exact sumI_mem_le h0 hx⟩
  refine Ev.bind (parts_f hl ht ht2 hs1 hs2 hws) (Ev.pos rfl ?_)
  obtain⟨b0,b1,_⟩:=left_bound (t:=t) hs (by omega)
  have hc:l.countP (fun w=>decide (0 < rst t s w))≤l.length:=List.countP_le_length
  obtain⟨L,hL⟩:=Int.eq_ofNat_of_zero_le b0
  have hby:bY.f ((l.map (prt t s)).length:Int) (l.map (rst t s))=some ((List.range l.length).map fun p=> ((atp (fun j=> (l.map (rst t s)).getD j 0) l.length p:Nat):Int)):=by
    unfold bY.f
    rw[if_pos ⟨by simp,by rw[List.length_map];omega,by rw[List.length_map];omega⟩]
    unfold byList atp
    rw[List.length_map]
  refine Q.Ev.bindc hby ?_
  dsimp only
  rw[hL]
  refine Ev.pos (by omega) (Ev.pos (by simp;omega) (Q.Ev.bindc rfl ?_))
  rw[Int.toNat_natCast,←List.map_take,List.take_range,Nat.min_eq_left (by omega)]
  have:=inc_l0 (ys:=(List.range L).map fun p=> ((atp (fun j=> (l.map (rst t s)).getD j 0) l.length p:Nat):Int)) (by simp;omega) L 0 (l.map (prt t s)) (by simp) (by omega) (by simpa using hl) (fun y hy=>by
    obtain⟨p,hp,rfl⟩:=List.mem_map.1 hy
    have:=(atp_spec (r:=fun j=> (l.map (rst t s)).getD j 0) (n:=l.length) (p:=p) (by have:=List.mem_range.1 hp;omega)).1
    refine⟨by omega,?_⟩
    rw[List.length_map];omega) (fun x hx=>by
    obtain⟨w,hw,rfl⟩:=List.mem_map.1 hx
    have:=prt_ok ht ht2 hs1 (hws w hw).1 (hws w hw).2
    omega)
  rw[Int.natCast_zero] at this
  refine Ev.eq this ?_
  congr 1
  rw[List.length_map]
  unfold outL
  refine List.map_congr_left fun i hi=>?_
  have hi:=List.mem_range.1 hi
  unfold outAt
  rw[getD_map hi,List.drop_zero,List.countP_map]
  congr 1
  have e:(List.range L).countP ((fun y=>decide (y=(i:Int))) ∘ fun p=> ((atp (fun j=> (l.map (rst t s)).getD j 0) l.length p:Nat):Int))=(List.range L).countP (fun p=>decide (atp (fun j=> (l.map (rst t s)).getD j 0) l.length p=i)):=by
    refine List.countP_congr fun p _=>?_
    simp only[Function.comp,decide_eq_true_eq]
    omega
  rw[e,count_first hi L (by omega),rank_rests hi,hL]
  by_cases c:rank (fun j=>rst t s (wt l j)) l.length i < L
  · rw[if_pos c,if_pos (by omega)];rfl
  rw[if_neg c,if_neg (by omega)];rfl
def outS (t:Int) (l:List Int):List Int × Int:=if(wholeS l).2=0 then(if t < 0∨1000000000000 < t then([],8)else(outL t (wholeS l).1 (eff l),0))else([],(wholeS l).2)
theorem out_f {t:Int} {l:List Int} (hl:l.length < 9223372036854775807):Ev (fun k=>bM.f k t l) (outS t l):=by
  unfold bM.f outS
  refine Ev.bind (whole_f hl) ?_
  by_cases hw:(wholeS l).2=0
  · rw[if_pos hw]
    refine Ev.pos hw ?_
    obtain⟨h1,h2,h0,h3,h4,h5,h6,h7⟩:=whole_ok hw
    by_cases ht:t < 0
    · rw[if_pos (.inl ht)];exact Ev.pos ht (Ev.const rfl)
    refine Ev.neg ht (Q.Ev.bindc (in_f t) ?_)
    by_cases ht2:1000000000000 < t
    · rw[if_pos (.inr ht2)]
      exact Ev.neg (by rw[decide_eq_true_eq];unfold amt;omega) (Ev.const rfl)
    rw[if_neg (by omega)]
    refine Ev.pos (decide_eq_true (by unfold amt;omega)) ?_
    obtain⟨m,hm,hm0⟩:=max_f h1 hl h0
    refine Ev.bind hm ?_
    by_cases c:sumI l=0
    · refine Ev.pos (hm0.2 c) (Ev.bind (even_f (by omega)) ?_)
      have e:eff l=List.replicate l.length 1:=by unfold eff;rw[if_pos c]
      rw[e] at h6 h7⊢
      exact deal_f (by simpa using h1) (by simpa using h2) (by omega) (by omega) h6 h4 h5 h7
    refine Ev.neg (fun e=>c (hm0.1 e)) ?_
    have e:eff l=l:=by unfold eff;rw[if_neg c]
    rw[e] at h6 h7⊢
    exact deal_f h1 h2 (by omega) (by omega) h6 h4 h5 h7
  rw[if_neg hw]
  exact Ev.neg hw (Ev.ok rfl)
section
variable {t s:Int} {w:List Int}
def oU (t s:Int) (w:List Int) (u:Nat):List Int:=(List.range w.length).map fun i=>prt t s (wt w i)+if rank (fun j=>rst t s (wt w j)) w.length i < u then 1 else 0
def cU (t s:Int) (w:List Int) (u:Nat):List Int:=(List.range w.length).map fun i=>if rank (fun j=>rst t s (wt w j)) w.length i < u then -1 else rst t s (wt w i)
theorem oU_len (u:Nat):(oU t s w u).length=w.length:=by unfold oU;simp
theorem cU_len (u:Nat):(cU t s w u).length=w.length:=by unfold cU;simp
theorem oU_at {u i:Nat} (h:i < (oU t s w u).length):(oU t s w u)[i] =prt t s (wt w i)+if rank (fun j=>rst t s (wt w j)) w.length i < u then 1 else 0:=by
  show((List.range w.length).map _)[i]'(by rw[oU_len] at h;simpa using h)=_
  rw[List.getElem_map,List.getElem_range]
theorem cU_at {u i:Nat} (h:i < (cU t s w u).length):(cU t s w u)[i] =if rank (fun j=>rst t s (wt w j)) w.length i < u then -1 else rst t s (wt w i):=by
  show((List.range w.length).map _)[i]'(by rw[cU_len] at h;simpa using h)=_
  rw[List.getElem_map,List.getElem_range]
theorem oU_zero:oU t s w 0=w.map (prt t s):=by
  apply List.ext_getElem
  · rw[oU_len];simp
  intro i h1 h2
  rw[oU_at]
  rw[oU_len] at h1
  simp[wt,List.getD_eq_getElem?_getD,h1]
theorem cU_zero:cU t s w 0=w.map (rst t s):=by
  apply List.ext_getElem
  · rw[cU_len];simp
  intro i h1 h2
  rw[cU_at]
  rw[cU_len] at h1
  simp[wt,List.getD_eq_getElem?_getD,h1]
def Best (c:List Int) (n b:Nat):Prop:= ∀ i,i < n→c.getD i 0≤c.getD b 0∧(i < b→c.getD i 0 < c.getD b 0)
theorem scan_l3 {l o c : List Int} {x : Int} {R : List Int × Int} (hl : l.length ≤ 200) (hc : c.length = l.length) (ho : o.length = l.length)
    (hR: ∀ K,K < l.length→Best c l.length K→Ev (fun k=>aC.l2 k l (o.set K (wrap64 (o.getD K 0+1))) (c.set K (-1)) (wrap64 (x - 1))) R) (d:Nat): ∀ p b:Nat,l.length - p=d→p≤l.length→b < l.length→b≤p→Best c p b→
    Ev (fun k=>aC.l3 k l o c x (b:Int) (p:Int)) R:=by
  induction d with
  |zero=>
    intro p b hd hp hb hbp hB
    obtain rfl:p=l.length:=by omega
    refine Ev.step (fun k=>by simp only[aC.l3];rfl) ?_
    refine Ev.neg (by omega) (Ev.pos (by omega) (Ev.pos (by omega) (Ev.pos (by omega) ?_)))
    have:=hR b hb hB
    have e:rd o (b:Int)=o.getD b 0:=by unfold rd;rw[Int.toNat_natCast]
    rw[e,Int.toNat_natCast]
    exact this
  |succ d ih=>
    intro p b hd hp hb hbp hB
    have h:p < l.length:=by omega
    refine Ev.step (fun k=>by simp only[aC.l3];rfl) ?_
    refine Ev.pos (by omega) (Ev.pos (by omega) (Ev.pos (by omega) (Ev.pos (by omega) (Ev.pos (by omega) ?_))))
    have e: ∀ q:Nat,rd c (q:Int)=c.getD q 0:=fun q=>by unfold rd;rw[Int.toNat_natCast]
    rw[e,e,wrap_eq (by omega) (by omega)]
    by_cases g:c.getD p 0 > c.getD b 0
    · refine Ev.pos g (ih (p+1) p (by omega) (by omega) h (by omega) (fun i hi=>?_))
      by_cases e2:i=p
      · subst e2;exact⟨by omega,fun h=>by omega⟩
      have:=hB i (by omega)
      omega
    refine Ev.neg g (ih (p+1) b (by omega) (by omega) hb (by omega) (fun i hi=>?_))
    by_cases e2:i=p
    · subst e2;exact⟨by omega,fun h=>by omega⟩
    exact hB i (by omega)
theorem rounds_l2 {l : List Int} {L : Nat} (hw : w.length = l.length) (hl : l.length ≤ 200) (hL : L ≤ l.length) (ht : 0 ≤ t) (ht2 : t ≤ 1000000000000) (hs : 1 ≤ s) (h0 : ∀ x ∈ w, 0 ≤ x ∧ x ≤ s) (d : Nat) : ∀ u : Nat, L - u = d → u ≤ L →
    Ev (fun k=>aC.l2 k l (oU t s w u) (cU t s w u) ((L - u:Nat):Int)) (oU t s w L,0):=by
  induction d with
  |zero=>
    intro u hd hu
    obtain rfl:u=L:=by omega
    refine Ev.step (fun k=>by simp only[aC.l2];rfl) ?_
    exact Ev.neg (by omega) (Ev.const rfl)
  |succ d ih=>
    intro u hd hu
    refine Ev.step (fun k=>by simp only[aC.l2];rfl) ?_
    refine Ev.pos (by omega) ?_
    have hn:0 < l.length:=by omega
    have hp: ∀ i,i < l.length→0≤prt t s (wt w i)∧prt t s (wt w i)≤t∧0≤rst t s (wt w i):=fun i hi=>by
      have hi':i < w.length:=by omega
      have e:wt w i=w[i] :=by unfold wt;simp[List.getD_eq_getElem?_getD,hi']
      have hx:=h0 _ (List.getElem_mem hi')
      have:=prt_ok ht ht2 hs hx.1 hx.2
      rw[e];exact⟨this.1,this.2.1,this.2.2.1⟩
    refine scan_l3 hl (by rw[cU_len,hw]) (by rw[oU_len,hw]) (fun K hK hB=>?_) l.length 0 0 (by omega) (by omega) hn (by omega) (fun i hi=>by omega)
    have hc: ∀ i,i < l.length→(cU t s w u).getD i 0=if rank (fun j=>rst t s (wt w j)) w.length i < u then -1 else rst t s (wt w i):=fun i hi=>by
      have hi':i < (cU t s w u).length:=by rw[cU_len,hw];exact hi
      rw[←cU_at hi']
      simp[List.getD_eq_getElem?_getD,hi']
    have hge:u≤rank (fun j=>rst t s (wt w j)) w.length K:=by
      apply Classical.byContradiction
      intro hlt
      obtain⟨i,hi,he⟩:=rank_ex (r:=fun j=>rst t s (wt w j)) (n:=w.length) (p:=u) (by omega)
      have h1:=(hB i (by omega)).1
      rw[hc i (by omega),hc K hK,if_neg (by omega),if_pos (by omega)] at h1
      have:=(hp i (by omega)).2.2
      omega
    have hrk:rank (fun j=>rst t s (wt w j)) w.length K=u:=by
      refine rank_next (rank_count _ _ u (by omega)) (by omega) hge (fun i hi hui hne=>?_)
      have h1:=hB i (by omega)
      rw[hc i (by omega),hc K hK,if_neg (by omega),if_neg (by omega)] at h1
      rw[bef_iff]
      have h2:=h1.1
      by_cases c:i < K
      · have:=h1.2 c;left;omega
      by_cases c2:rst t s (wt w i)=rst t s (wt w K)
      · right;exact⟨c2.symm,by omega⟩
      left;omega
    have hKo:K < (oU t s w u).length:=by rw[oU_len,hw];exact hK
    have eK:(oU t s w u).getD K 0=prt t s (wt w K):=by
      have:=oU_at hKo
      rw[if_neg (by omega)] at this
      simp only[List.getD_eq_getElem?_getD,List.getElem?_eq_getElem hKo,Option.getD_some]
      omega
    have hpK:=hp K hK
    rw[eK,wrap_eq (x:=prt t s (wt w K)+1) (by omega) (by omega),wrap_eq (by omega) (by omega)]
    have e1:(oU t s w u).set K (prt t s (wt w K)+1)=oU t s w (u+1):=by
      apply List.ext_getElem
      · rw[List.length_set,oU_len,oU_len]
      intro i h1 h2
      rw[List.getElem_set,oU_at,oU_at]
      rw[oU_len] at h2
      by_cases c:K=i
      · subst c;rw[if_pos rfl,if_pos (by omega)]
      rw[if_neg c]
      have:rank (fun j=>rst t s (wt w j)) w.length i≠u:=fun e=>c (rank_inj (by omega) h2 (hrk.trans e.symm))
      by_cases c2:rank (fun j=>rst t s (wt w j)) w.length i < u
      · rw[if_pos c2,if_pos (by omega)]
      rw[if_neg c2,if_neg (by omega)]
    have e2:(cU t s w u).set K (-1)=cU t s w (u+1):=by
      apply List.ext_getElem
      · rw[List.length_set,cU_len,cU_len]
      intro i h1 h2
      rw[List.getElem_set,cU_at,cU_at]
      rw[cU_len] at h2
      by_cases c:K=i
      · subst c;rw[if_pos rfl,if_pos (by omega)]
      rw[if_neg c]
      have:rank (fun j=>rst t s (wt w j)) w.length i≠u:=fun e=>c (rank_inj (by omega) h2 (hrk.trans e.symm))
      by_cases c2:rank (fun j=>rst t s (wt w j)) w.length i < u
      · rw[if_pos c2,if_pos (by omega)]
      rw[if_neg c2,if_neg (by omega)]
    rw[e1,e2,show((L - u:Nat):Int) - 1=((L - (u+1):Nat):Int) by omega]
    exact ih (u+1) (by omega) (by omega)
end
theorem divR_at {t s w:Int} (ht:0≤t) (ht2:t≤1000000000000) (hs:1≤s) (hw:0≤w) (hws:w≤s):divR t w s=(prt t s w,rst t s w):=by
  have h:=prt_ok ht ht2 hs hw hws
  unfold divR
  rw[if_neg (by unfold prt at h;omega)]
  rfl
theorem rparts_l1 {t s : Int} {l : List Int} {R : List Int × Int} (hl : l.length ≤ 200) (ht : 0 ≤ t) (ht2 : t ≤ 1000000000000) (hs : 1 ≤ s) (hs2 : s ≤ 1000000000000) (h0 : ∀ x ∈ eff l, 0 ≤ x ∧ x ≤ s) (hR : Ev (fun k => aC.l2 k l ((eff l).map (prt t s)) ((eff l).map (rst t s)) (leftI t s (eff l))) R) (d : Nat) : ∀ (i : Nat) (L : Int) (A B : List Int), l.length - i = d → i ≤ l.length → A = ((eff l).take i).map (prt t s) → B = ((eff l).take i).map (rst t s) → L = t - sumI (((eff l).take i).map (prt t s)) → L ≤ 1000000000000 → -((i : Int) * 1000000000000) ≤ L →
    Ev (fun k=>aC.l1 k t l s (sumI l) A B L (i:Int)) R:=by
  induction d with
  |zero=>
    intro i L A B hd hi hA hB hL hL2 hL3
    refine Ev.step (fun k=>by simp only[aC.l1];rfl) ?_
    refine Ev.neg (by omega) ?_
    rw[List.take_of_length_le (by rw[eff_len];omega)] at hA hB hL
    rw[hA,hB,hL]
    exact hR
  |succ d ih=>
    intro i L A B hd hi hA hB hL hL2 hL3
    have h:i < l.length:=by omega
    have hie:i < (eff l).length:=by rw[eff_len];exact h
    have hx:=h0 _ (List.getElem_mem hie)
    have hp:=prt_ok ht ht2 hs hx.1 hx.2
    have hAl:A.length=i:=by rw[hA];simp;omega
    have hBl:B.length=i:=by rw[hB];simp;omega
    have hdv:=divR_at ht ht2 hs hx.1 hx.2
    have hrd:=ref_div_f (a:=t) (b:=(eff l)[i]) (c:=s) hs (by unfold may;omega)
    have et:(eff l).take (i+1)=(eff l).take i++ [(eff l)[i]] :=List.take_succ_eq_append_getElem hie
    have nx:=ih (i+1) (L - prt t s (eff l)[i]) (A++ [prt t s (eff l)[i]]) (B++ [rst t s (eff l)[i]]) (by omega) (by omega) (by rw[et,List.map_append,hA];rfl) (by rw[et,List.map_append,hB];rfl) (by rw[et,List.map_append,sumI_append,hL];simp[sumI];omega) (by omega) (by omega)
    refine Ev.step (fun k=>by simp only[aC.l1];rfl) ?_
    refine Ev.pos (by omega) (Ev.pos (by omega) ?_)
    rw[rd_nat h,wrap_eq (x:=(i:Int)+1) (by omega) (by omega)]
    by_cases c:sumI l=0
    · have e1 : (eff l)[i] = 1 := by
        have:eff l=List.replicate l.length 1:=by unfold eff;rw[if_pos c]
        simp only[this,List.getElem_replicate]
      rw[e1] at hrd hdv nx hp
      refine Ev.pos c (Ev.bind hrd ?_)
      rw[hdv]
      refine Ev.pos (by omega) (Ev.pos (by omega) ?_)
      dsimp only
      rw[wrap_eq (by omega) (by omega)]
      exact nx
    have e1:(eff l)[i] =l[i] :=by
      have:eff l=l:=by unfold eff;rw[if_neg c]
      simp only[this]
    rw[e1] at hrd hdv nx hp
    refine Ev.neg c (Ev.bind hrd ?_)
    rw[hdv]
    refine Ev.pos (by omega) (Ev.pos (by omega) ?_)
    dsimp only
    rw[wrap_eq (by omega) (by omega)]
    exact nx
theorem rall_l0 {t s : Int} {l : List Int} {R : List Int × Int} (hl : l.length ≤ 200) (h0 : ∀ x ∈ l, 0 ≤ x) (hm : sumI l ≤ 1000000000000) (hR : Ev (fun k => aC.l1 k t l s (sumI l) [] [] t 0) R) (d : Nat) : ∀ (i : Nat) (n : Int), l.length - i = d → i ≤ l.length → n = sumI (l.take i) →
    Ev (fun k=>aC.l0 k t l s n (i:Int)) R:=by
  induction d with
  |zero=>
    intro i n hd hi hn
    refine Ev.step (fun k=>by simp only[aC.l0];rfl) ?_
    refine Ev.neg (by omega) ?_
    rw[List.take_of_length_le (by omega)] at hn
    rw[hn]
    exact hR
  |succ d ih=>
    intro i n hd hi hn
    have h:i < l.length:=by omega
    have hx:=h0 _ (List.getElem_mem h)
    have hx2:=sumI_mem_le h0 (List.getElem_mem h)
    have e:l.take (i+1)=l.take i++ [l[i]] :=List.take_succ_eq_append_getElem h
    have h1:=sumI_nonneg (l:=l.take i) (fun y hy=>h0 y (List.mem_of_mem_take hy))
    have h2:sumI l=sumI (l.take i)+sumI (l.drop i):=by rw[←sumI_append,List.take_append_drop]
    have h3:=sumI_nonneg (l:=l.drop i) (fun y hy=>h0 y (List.mem_of_mem_drop hy))
    refine Ev.step (fun k=>by simp only[aC.l0];rfl) ?_
    refine Ev.pos (by omega) (Ev.pos (by omega) ?_)
    rw[rd_nat h,wrap_eq (by omega) (by omega),wrap_eq (by omega) (by omega)]
    exact ih (i+1) _ (by omega) (by omega) (by rw[e,sumI_append,hn];simp[sumI])
theorem rout_f {t:Int} {l:List Int} (hl:l.length < 9223372036854775807):Ev (fun k=>aC.f k t l) (outS t l):=by
  unfold aC.f outS
  refine Ev.bind (rwhole_f hl) ?_
  by_cases hw:(wholeS l).2=0
  · rw[if_pos hw]
    refine Ev.pos hw ?_
    obtain⟨h1,h2,h0,h3,h4,h5,h6,h7⟩:=whole_ok hw
    have hws: ∀ x ∈ eff l,0≤x∧x≤(wholeS l).1:=fun x hx=> ⟨h7 x hx,by rw[←h6];exact sumI_mem_le h7 hx⟩
    by_cases ht:t < 0
    · rw[if_pos (.inl ht)]
      refine Ev.pos ht ?_
      refine Ev.step (fun k=>by simp only[aC.j0];rfl) ?_
      exact Ev.pos (by simp) (Ev.const rfl)
    refine Ev.neg ht ?_
    refine Ev.step (fun k=>by simp only[aC.j0];rfl) ?_
    by_cases ht2:1000000000000 < t
    · rw[if_pos (.inr ht2)]
      exact Ev.pos (decide_eq_true ht2) (Ev.const rfl)
    rw[if_neg (by omega)]
    refine Ev.neg (by simp;omega) ?_
    obtain⟨b0,b1,_⟩:=left_bound (t:=t) h6 (by omega)
    have hc:(eff l).countP (fun w=>decide (0 < rst t (wholeS l).1 w))≤(eff l).length:=List.countP_le_length
    rw[eff_len] at hc
    obtain⟨L,hL⟩:=Int.eq_ofNat_of_zero_le b0
    refine rall_l0 h2 h0 h3 ?_ l.length 0 0 (by omega) (by omega) (by simp[sumI])
    refine rparts_l1 h2 (by omega) (by omega) h4 h5 hws ?_ l.length 0 t [] [] (by omega) (by omega) (by simp) (by simp) (by simp[sumI]) (by omega) (by omega)
    have:=rounds_l2 (t:=t) (s:=(wholeS l).1) (w:=eff l) (l:=l) (L:=L) (eff_len l) h2 (by omega) (by omega) (by omega) h4 hws L 0 (by omega) (by omega)
    rw[oU_zero,cU_zero,Nat.sub_zero] at this
    rw[hL]
    refine Ev.eq this ?_
    congr 1
    unfold oU outL
    refine List.map_congr_left fun i hi=>?_
    unfold outAt
    rw[hL]
    congr 1
    by_cases c:rank (fun j=>rst t (wholeS l).1 (wt (eff l) j)) (eff l).length i < L
    · rw[if_pos c,if_pos (by omega)]
    rw[if_neg c,if_neg (by omega)]
  rw[if_neg hw]
  exact Ev.neg hw (Ev.ok rfl)
end Go.Proofs.Ytefhljhpcpajgaa.Q
namespace Go.Proofs.Ytefhljhpcpajgaa.Q
open Go.RowKit YtefhljhpcpajgaaW.PrintWords YtefhljhpcpajgaaW.PrintLast YtefhljhpcpajgaaW.PrintMore
def bytesB (l:List UInt8):ByteArray:=⟨l.toArray⟩
theorem data_append (a b:ByteArray):(a++b).data.toList=a.data.toList++b.data.toList:=by simp[ByteArray.data_append]
theorem size_data (a:ByteArray):a.data.toList.length=a.size:=by rw[Array.length_toList];rfl
theorem bt_data (s:ByteArray) (i:Nat) (h:i < s.size):bt s (i:Int)=((s.data.toList[i]'(by rw[size_data];exact h)).toNat:Int):=by
  unfold bt
  rw[dif_pos (by simpa using h)]
  simp[ByteArray.getElem_eq_getElem_data]
def wide (w:Int):Prop:=w=1∨w=2∨w=4∨w=8
instance (w:Int):Decidable (wide w):=by unfold wide;infer_instance
def natI (l:List UInt8):List Int:=l.map (fun b=> (b.toNat:Int))
theorem strOfNums_nat (l:List UInt8):strOfNums (natI l)=bytesB l:=by
  unfold strOfNums natI bytesB
  rw[List.map_map]
  congr 2
  exact(List.map_congr_left fun b _=>by simp).trans (List.map_id l)
end Go.Proofs.Ytefhljhpcpajgaa.Q
namespace Go.Proofs.Ytefhljhpcpajgaa.Q
open Go.RowKit YtefhljhpcpajgaaX YtefhljhpcpajgaaW.PrintWords YtefhljhpcpajgaaW.PrintLast YtefhljhpcpajgaaW.PrintMore
def up8 (b:UInt8):UInt8:=if 97≤b.toNat∧b.toNat≤122 then UInt8.ofNat (b.toNat - 32)else b
theorem up8_toNat (b:UInt8):((up8 b).toNat:Int)=upI b.toNat:=by
  unfold up8 upI
  by_cases h:97≤b.toNat∧b.toNat≤122
  · rw[if_pos h,if_pos (by omega)]
    have:(UInt8.ofNat (b.toNat - 32)).toNat=b.toNat - 32:=by simp;omega
    rw[this];omega
  rw[if_neg h,if_neg (by omega)]
theorem up8_of (b:UInt8):UInt8.ofNat (upI b.toNat).toNat=up8 b:=by
  apply UInt8.toNat_inj.1
  have h:=up8_toNat b
  have h2:=(up8 b).toNat_lt
  have:(upI b.toNat).toNat=(up8 b).toNat:=by omega
  rw[this];simp
theorem up_runes (l:List UInt8):((runes l).map fun r=>UInt8.ofNat (upI r).toNat)=l.map up8:=by
  simp only[runes,List.map_map]
  exact List.map_congr_left fun b _=>up8_of b
def serB (l:List UInt8):Prop:=1≤l.length∧l.length≤16∧l.getLast?≠some 45∧okL 3 (runes l)=true
instance (l:List UInt8):Decidable (serB l):=by unfold serB;infer_instance
theorem foldS_eq (s:ByteArray):foldS s=if serB s.data.toList then(⟨(s.data.toList.map up8).toArray⟩,0)else(⟨#[]⟩,9):=by
  unfold foldS
  rw[up_runes]
  by_cases h:s.size < 1∨s.size > 16∨s.data.toList.getLast? =some 45∨okL 3 (runes s.data.toList)=false
  · rw[if_pos h,if_neg]
    rintro⟨h1,h2,h3,h4⟩
    rw[size_data] at h1 h2
    rcases h with h|h|h|h
    · omega
    · omega
    · exact h3 h
    rw[h] at h4;cases h4
  rw[if_neg h,if_pos]
  refine⟨by rw[size_data];omega,by rw[size_data];omega,fun x=>h (.inr (.inr (.inl x))),?_⟩
  cases e:okL 3 (runes s.data.toList)
  · exact absurd (.inr (.inr (.inr e))) h
  rfl
theorem checkS_or (s:ByteArray):checkS s=0∨checkS s=9:=by unfold checkS;split <;> simp
def lt8 (a b:ByteArray):Prop:=Op.bytesLess a.toList b.toList=true
instance (a b:ByteArray):Decidable (lt8 a b):=by unfold lt8;infer_instance
def notUp:Option ByteArray→ByteArray→Bool
  |none,_=>false
  |some q,s=>!(Op.bytesLess q.toList s.toList)
def rowG:Option ByteArray→List ByteArray→Int
  |_,[] =>0
  |p,s::l=>if checkS s=0 then(if notUp p s=true then 32 else rowG (some s) l)else 9
end Go.Proofs.Ytefhljhpcpajgaa.Q
namespace Go.Proofs.Ytefhljhpcpajgaa.Q
open Go.RowKit Ytefhljhpcpajgaa.F YtefhljhpcpajgaaX YtefhljhpcpajgaaW.PrintWords YtefhljhpcpajgaaW.PrintLast YtefhljhpcpajgaaW.PrintMore
theorem ref01_class_f (r:Int):aJ.f 20 r=some (clsI r):=by
  unfold aJ.f clsI
  simp only[aJ.j0,aJ.j1]
  (repeat' split) <;> simp_all <;> omega
theorem ref01_class_ev (r:Int):Ev (fun k=>aJ.f k r) (clsI r):=Ev.of (fun k=>aJ.mono r k) (ref01_class_f r)
def foldRest (last:Int) (t l:List UInt8):ByteArray × Int:=if okL last (runes l)=true then(bytesB (t++l.map up8),0)else(⟨#[]⟩,9)
theorem cls_45 {b:UInt8} :clsI b.toNat=3↔b=45:=by
  have h45:(45:UInt8).toNat=45:=rfl
  have hn:=b.toNat_lt
  constructor
  · intro h
    apply UInt8.toNat_inj.1
    unfold clsI at h
    (repeat' split at h) <;> omega
  rintro rfl;decide
theorem okL_iff {last:Int} {b:UInt8} {l:List UInt8} :okL last (runes (b::l))=true↔(clsI b.toNat≠0∧¬ (b=45∧last=3))∧okL (clsI b.toNat) (runes l)=true:=by
  show(mayB (clsI b.toNat) last&&okL (clsI b.toNat) (runes l))=true↔_
  rw[Bool.and_eq_true]
  have:mayB (clsI b.toNat) last=true↔clsI b.toNat≠0∧¬ (b=45∧last=3):=by
    unfold mayB
    rw[←cls_45]
    simp only[Bool.and_eq_true,Bool.or_eq_true,bne_iff_ne]
    omega
  rw[this]
theorem bt_nat {s:ByteArray} {i:Nat} (h:i < s.data.toList.length):bt s (i:Int)=((s.data.toList[i]).toNat:Int):=bt_data s i (by rw[←size_data];exact h)
theorem bt_45 {s:ByteArray} {i:Nat} (h:i < s.data.toList.length):bt s (i:Int)=45↔s.data.toList[i] =45:=by
  rw[bt_nat h]
  constructor
  · intro x;apply UInt8.toNat_inj.1;show _=45;omega
  intro x;rw[x];rfl
theorem ref01_fold_j2 {s:ByteArray} {i:Nat} {t:List UInt8} {b:UInt8} {r:ByteArray × Int} (ht:t.length < 100) (hi:i < 100) (h:Ev (fun k=>aD.l0 k s (natI (t++ [up8 b])) (((i+1:Nat)):Int)) r):Ev (fun k=>aD.j2 k s (natI t) (i:Int) (b.toNat:Int) false) r:=by
  have hl:(natI t).length=t.length:=by simp[natI]
  have hn:=b.toNat_lt
  have e: ∀ x:Int,x=((up8 b).toNat:Int)→natI t++ [x] =natI (t++ [up8 b]):=by rintro x rfl;simp[natI]
  refine Ev.step (fun k=>by simp only[aD.j2];rfl) ?_
  rw[wrap_eq (by omega) (by omega)]
  refine Ev.neg (by decide) (Ev.ite (fun h1=>Ev.ite (fun h2=>Ev.pos (by omega) ?_) (fun h2=>Ev.pos (by omega) ?_)) (fun h1=>Ev.pos (by omega) ?_))
  · rw[e _ (by rw[up8_toNat];unfold upI;rw[if_pos (by omega)];omega)];exact h
  · rw[e _ (by rw[up8_toNat];unfold upI;rw[if_neg (by omega)])];exact h
  rw[e _ (by rw[up8_toNat];unfold upI;rw[if_neg (by omega)])];exact h
theorem ref01_fold_bad {s:ByteArray} {i c:Int} {o:List Int} {last:Int} {t l:List UInt8} (h: ¬ okL last (runes l)=true):Ev (fun k=>aD.j2 k s o i c true) (foldRest last t l):=by
  refine Ev.step (fun k=>by simp only[aD.j2];rfl) ?_
  refine Ev.pos trivial (Ev.ok ?_)
  unfold foldRest
  rw[if_neg h]
theorem ref01_fold_l0 {s:ByteArray} (hs:s.size≤16) (h0: ∀ h:0 < s.data.toList.length,s.data.toList[0]≠45) (d:Nat): ∀ (i:Nat) (t:List UInt8) (last:Int),s.size - i=d→i≤s.size→t.length=i→(i=0∨∃ h:i - 1 < s.data.toList.length,last=clsI (s.data.toList[i - 1]).toNat)→Ev (fun k=>aD.l0 k s (natI t) (i:Int)) (foldRest last t (s.data.toList.drop i)):=by
  have hsz:=size_data s
  induction d with
  |zero=>
    intro i t last hd hi ht hla
    refine Ev.step (fun k=>by simp only[aD.l0];rfl) ?_
    refine Ev.neg (by omega) (Ev.ok ?_)
    rw[List.drop_eq_nil_of_le (by omega)]
    unfold foldRest
    rw[if_pos (show okL last (runes [])=true from rfl),strOfNums_nat,List.map_nil,List.append_nil]
  |succ d ih=>
    intro i t last hd hi ht hla
    have h:i < s.data.toList.length:=by omega
    have hb:bt s (i:Int)=((s.data.toList[i]).toNat:Int):=bt_nat h
    have hn:=(s.data.toList[i]).toNat_lt
    have hw:wrap32 (((s.data.toList[i]).toNat:Int))=((s.data.toList[i]).toNat:Int):=by unfold wrap32;omega
    refine Ev.step (fun k=>by simp only[aD.l0];rfl) ?_
    refine Ev.pos (by omega) (Ev.pos (by omega) ?_)
    rw[drop_cons h,hb,hw]
    have hd1:s.size - (i+1)=d:=by clear hb hw ih hla hn ht;omega
    have hd2:i+1≤s.size:=by clear hb hw ih hla hn ht;omega
    have good:okL last (runes (s.data.toList[i] ::s.data.toList.drop (i+1)))=okL (clsI (s.data.toList[i]).toNat) (runes (s.data.toList.drop (i+1)))→Ev (fun k=>aD.j2 k s (natI t) (i:Int) ((s.data.toList[i]).toNat:Int) false) (foldRest last t (s.data.toList[i] ::s.data.toList.drop (i+1))):=by
      intro e
      refine ref01_fold_j2 (by omega) (by omega) (Ev.eq (ih (i+1) (t++ [up8 s.data.toList[i]]) (clsI (s.data.toList[i]).toNat) hd1 hd2 (by simp[ht]) (.inr ⟨by simpa using h,by simp⟩)) ?_)
      unfold foldRest
      rw[e,List.map_cons,List.append_assoc]
      rfl
    have eq_of:(clsI (s.data.toList[i]).toNat≠0∧¬ (s.data.toList[i] =45∧last=3))→okL last (runes (s.data.toList[i] ::s.data.toList.drop (i+1)))=okL (clsI (s.data.toList[i]).toNat) (runes (s.data.toList.drop (i+1))):=by
      intro hg
      rw[Bool.eq_iff_iff,okL_iff]
      exact⟨fun x=>x.2,fun x=> ⟨hg,x⟩⟩
    refine Ev.bind (ref01_class_ev _) (Ev.ite (fun h1=>?_) (fun h1=>?_))
    · exact ref01_fold_bad (fun x=> (okL_iff.1 x).1.1 h1)
    refine Ev.ite (fun h2=>?_) (fun h2=>?_)
    · have h45:s.data.toList[i] =45:=by apply UInt8.toNat_inj.1;show _=45;omega
      have hi1:1≤i:=by
        rcases Nat.eq_zero_or_pos i with h'|h'
        · subst h';exact absurd h45 (h0 h)
        exact h'
      obtain⟨hp,hl⟩:=hla.resolve_left (by omega)
      rw[wrap_eq (x:=(i:Int) - 1) (by omega) (by omega),show(i:Int) - 1=((i - 1:Nat):Int) by omega]
      refine Ev.pos (by omega) (Ev.pos (by omega) ?_)
      by_cases h3:s.data.toList[i - 1] =45
      · rw[show(bt s ((i - 1:Nat):Int)==45)=true from beq_iff_eq.2 ((bt_45 hp).2 h3)]
        exact ref01_fold_bad (fun x=> (okL_iff.1 x).1.2 ⟨h45,by rw[hl];exact cls_45.2 h3⟩)
      rw[show(bt s ((i - 1:Nat):Int)==45)=false from beq_eq_false_iff_ne.2 (fun x=>h3 ((bt_45 hp).1 x))]
      exact good (eq_of ⟨h1,fun x=>h3 (cls_45.1 (by rw[←hl];exact x.2))⟩)
    exact good (eq_of ⟨h1,fun x=>h2 (by rw[x.1];rfl)⟩)
theorem last_get {l:List UInt8} (h:l.length - 1 < l.length):l.getLast? =some (l[l.length - 1]):=by
  rw[List.getLast?_eq_getElem?,List.getElem?_eq_getElem h]
theorem ref01_fold_f (s:ByteArray) (hs:s.size < 1099511627776):Ev (fun k=>aD.f k s) (foldS s):=by
  have hsz:=size_data s
  have bad: ¬ serB s.data.toList→Ev (fun k=>aD.j0 k s true) (foldS s):=by
    intro h
    refine Ev.step (fun k=>by simp only[aD.j0];rfl) ?_
    refine Ev.pos trivial (Ev.ok ?_)
    rw[foldS_eq,if_neg h]
  unfold aD.f
  refine Ev.ite (fun h=>bad (fun x=>by have:=x.1;omega)) (fun h=>Ev.ite (fun h1=>bad (fun x=>by have:=x.2.1;omega)) (fun h1=>Ev.pos (by omega) ?_))
  have hl0:0 < s.data.toList.length:=by omega
  have e0:bt s 0=45↔s.data.toList[0] =45:=bt_45 (i:=0) hl0
  refine Ev.ite (fun h2=>bad (fun x=>?_)) (fun h2=>?_)
  · have h3:=x.2.2.2
    have h4:s.data.toList=s.data.toList[0] ::s.data.toList.drop 1:=by
      have:=drop_cons (l:=s.data.toList) (i:=0) hl0
      simpa using this
    rw[h4] at h3
    exact(okL_iff.1 h3).1.2 ⟨e0.1 h2,rfl⟩
  have hlast:s.data.toList.length - 1 < s.data.toList.length:=by omega
  rw[wrap_eq (by omega) (by omega),show(s.size:Int) - 1=((s.data.toList.length - 1:Nat):Int) by omega]
  refine Ev.pos (by omega) (Ev.pos (by omega) ?_)
  by_cases h3:s.data.toList[s.data.toList.length - 1] =45
  · rw[show(bt s ((s.data.toList.length - 1:Nat):Int)==45)=true from beq_iff_eq.2 ((bt_45 hlast).2 h3)]
    exact bad (fun x=>x.2.2.1 (by rw[last_get hlast,h3]))
  rw[show(bt s ((s.data.toList.length - 1:Nat):Int)==45)=false from beq_eq_false_iff_ne.2 (fun x=>h3 ((bt_45 hlast).1 x))]
  refine Ev.step (fun k=>by simp only[aD.j0];rfl) ?_
  refine Ev.neg (by decide) (Ev.eq (ref01_fold_l0 (by omega) (fun _ x=>h2 (e0.2 x)) s.size 0 [] 3 (by omega) (by omega) rfl (.inl rfl)) ?_)
  rw[List.drop_zero,foldS_eq]
  unfold foldRest
  by_cases h4:okL 3 (runes s.data.toList)=true
  · rw[if_pos h4,if_pos ⟨by omega,by omega,by rw[last_get hlast];intro x;exact h3 (Option.some.inj x),h4⟩];rfl
  rw[if_neg h4,if_neg (fun x=>h4 x.2.2.2)]
theorem check_toList (s:ByteArray):(if(foldS s).2=0 then(if(foldS s).1.toList=s.toList then some (0:Int)else some 9)else some 9)=some (checkS s):=by
  unfold checkS
  by_cases h1:(foldS s).2=0
  · rw[if_pos h1]
    by_cases h2:(foldS s).1.toList=s.toList
    · rw[if_pos h2,if_pos ⟨h1,bytes_ext.1 h2⟩]
    rw[if_neg h2,if_neg (fun x=>h2 (by rw[x.2]))]
  rw[if_neg h1,if_neg (fun x=>h1 x.1)]
theorem ref01_check_f (s:ByteArray) (hs:s.size < 1099511627776):Ev (fun k=>bN.f k s) (checkS s):=by
  unfold bN.f
  exact Ev.bind (ref01_fold_f s hs) (Ev.const (check_toList s))
theorem serial_check_f (s:ByteArray) (hs:s.size < 9223372036854775807):cV.f s=some (checkS s):=by
  unfold cV.f cX.f checkS
  rw[if_pos hs,Option.bind_some]
  have e:(foldS s).1.toList=s.toList↔(foldS s).1=s:=by
    constructor
    · intro h
      rw[ByteArray.toList_eq,ByteArray.toList_eq] at h
      generalize (foldS s).1=a at *
      cases a;cases s
      simpa [Array.toList_inj] using h
    intro h;rw[h]
  by_cases h1:(foldS s).2=0
  · rw[if_pos h1]
    by_cases h2:(foldS s).1.toList=s.toList
    · rw[if_pos h2,if_pos ⟨h1,e.1 h2⟩]
    rw[if_neg h2,if_neg (fun x=>h2 (e.2 x.2))]
  rw[if_neg h1,if_neg (fun x=>h1 x.1)]
theorem serial_row_l0 {l:List ByteArray} (hl:l.length < 4611686018427387904) (hs: ∀ x ∈ l,x.size < 1099511627776) (d:Nat): ∀ (i:Nat),l.length - i=d→i≤l.length→Ev (fun k=>bR.l0 k l l (l.length:Int) (i:Int)) (rowG (if i=0 then none else l[i - 1]?) (l.drop i)):=by
  induction d with
  |zero=>
    intro i hd hi
    refine Ev.step (fun k=>by simp only[bR.l0];rfl) ?_
    refine Ev.neg (by omega) (Ev.ok ?_)
    rw[List.drop_eq_nil_of_le (by omega)];rfl
  |succ d ih=>
    intro i hd hi
    have h:i < l.length:=by omega
    refine Ev.step (fun k=>by simp only[bR.l0];rfl) ?_
    refine Ev.pos (by omega) (Ev.pos (by omega) (Ev.pos (by omega) ?_))
    rw[drop_cons h,rdOf_nat h,wrap_eq (x:=(i:Int)+1) (by omega) (by omega)]
    have ih':=ih (i+1) (by omega) (by omega)
    rw[if_neg (by omega),Nat.add_sub_cancel,List.getElem?_eq_getElem h] at ih'
    refine Ev.bindc (serial_check_f _ (by have:=hs _ (List.getElem_mem h);omega)) ?_
    simp only[rowG]
    refine Ev.ite (fun h1=>?_) (fun h1=>?_)
    · rw[if_pos h1]
      refine Ev.ite (fun h2=>?_) (fun h2=>?_)
      · have h':i - 1 < l.length:=by omega
        rw[wrap_eq (x:=(i:Int) - 1) (by omega) (by omega),show(i:Int) - 1=((i - 1:Nat):Int) by omega,rdOf_nat h',if_neg (show ¬ i=0 by omega),List.getElem?_eq_getElem h']
        refine Ev.pos (by omega) (Ev.pos (by omega) ?_)
        refine Ev.ite (fun h3=>?_) (fun h3=>?_)
        · rw[if_neg (by simp[notUp,h3])];exact ih'
        rw[if_pos (by simp[notUp,h3])];exact Ev.ok rfl
      rw[if_pos (show i=0 by omega),if_neg (by simp[notUp])];exact ih'
    rw[if_neg h1,(checkS_or _).resolve_left h1];exact Ev.ok rfl
theorem serial_row_f {l:List ByteArray} (hl:l.length < 4611686018427387904) (hs: ∀ x ∈ l,x.size < 1099511627776):Ev (fun k=>bR.f k l) (rowG none l):=by
  unfold bR.f
  exact serial_row_l0 hl hs l.length 0 (by omega) (by omega)
theorem ref01_row_l0 {l:List ByteArray} (hl:l.length < 4611686018427387904) (hs: ∀ x ∈ l,x.size < 1099511627776) (d:Nat): ∀ (i:Nat),l.length - i=d→i≤l.length→Ev (fun k=>bG.l0 k l (i:Int)) (rowG (if i=0 then none else l[i - 1]?) (l.drop i)):=by
  induction d with
  |zero=>
    intro i hd hi
    refine Ev.step (fun k=>by simp only[bG.l0];rfl) ?_
    refine Ev.neg (by omega) (Ev.ok ?_)
    rw[List.drop_eq_nil_of_le (by omega)];rfl
  |succ d ih=>
    intro i hd hi
    have h:i < l.length:=by omega
    refine Ev.step (fun k=>by simp only[bG.l0];rfl) ?_
    refine Ev.pos (by omega) (Ev.pos (by omega) ?_)
    rw[drop_cons h,rdOf_nat h,wrap_eq (x:=(i:Int)+1) (by omega) (by omega)]
    have ih':=ih (i+1) (by omega) (by omega)
    rw[if_neg (by omega),Nat.add_sub_cancel,List.getElem?_eq_getElem h] at ih'
    refine Ev.bind (ref01_check_f _ (hs _ (List.getElem_mem h))) ?_
    simp only[rowG]
    refine Ev.ite (fun h1=>?_) (fun h1=>?_)
    · rw[if_pos h1]
      refine Ev.ite (fun h2=>?_) (fun h2=>?_)
      · have h':i - 1 < l.length:=by omega
        rw[wrap_eq (x:=(i:Int) - 1) (by omega) (by omega),show(i:Int) - 1=((i - 1:Nat):Int) by omega,rdOf_nat h',if_neg (show ¬ i=0 by omega),List.getElem?_eq_getElem h']
        refine Ev.pos (by omega) (Ev.pos (by omega) ?_)
        refine Ev.ite (fun h3=>?_) (fun h3=>?_)
        · rw[if_neg (by simp[notUp,h3])];exact ih'
        rw[if_pos (by simp[notUp,h3])];exact Ev.ok rfl
      rw[if_pos (show i=0 by omega),if_neg (by simp[notUp])];exact ih'
    rw[if_neg h1];exact Ev.ok rfl
theorem ref01_row_f {l:List ByteArray} (hl:l.length < 4611686018427387904) (hs: ∀ x ∈ l,x.size < 1099511627776):Ev (fun k=>bG.f k l) (rowG none l):=by
  unfold bG.f
  exact ref01_row_l0 hl hs l.length 0 (by omega) (by omega)
abbrev LnT:=S71
theorem rdL {l:List LnT} {i:Nat} (h:i < l.length):rd_T71 l (i:Int)=l[i] :=by
  unfold rd_T71;simp[h]
def fewR (s:List ByteArray):Bool:=s.all fun x=>decide (x.size≤100)
def fewB (l:List LnT):Bool:=l.all fun x=>decide (x.f4.length≤40)&&fewR x.f4
def fewP (l:List LnT):Prop:=l.length≤20∧∀ x ∈ l,x.f4.length≤40∧∀ s ∈ x.f4,s.size≤100
theorem fewB_iff {l:List LnT} :fewB l=true↔ ∀ x ∈ l,x.f4.length≤40∧∀ s ∈ x.f4,s.size≤100:=by
  unfold fewB fewR
  simp only[List.all_eq_true,Bool.and_eq_true,decide_eq_true_eq]
theorem few_l1 {l:List LnT} {i:Nat} {r:Bool} (hl:l.length≤20) (hi:i < l.length) (h40:l[i].f4.length≤40) (hr:Ev (fun k=>aW.l0 k l ((i+1:Nat):Int)) r) (d:Nat): ∀ (j:Nat),l[i].f4.length - j=d→j≤l[i].f4.length→Ev (fun k=>aW.l1 k l (i:Int) (j:Int)) (fewR (l[i].f4.drop j)&&r):=by
  induction d with
  |zero=>
    intro j hd hj
    refine Ev.step (fun k=>by simp only[aW.l1];rfl) (Ev.pos (by omega) (Ev.pos (by omega) ?_))
    rw[rdL hi,List.drop_eq_nil_of_le (by omega),wrap_eq (x:=(i:Int)+1) (by omega) (by omega)]
    exact Ev.neg (by omega) hr
  |succ d ih=>
    intro j hd hj
    have h:j < l[i].f4.length:=by omega
    refine Ev.step (fun k=>by simp only[aW.l1];rfl) (Ev.pos (by omega) (Ev.pos (by omega) ?_))
    rw[rdL hi,rdOf_nat h,wrap_eq (x:=(j:Int)+1) (by omega) (by omega),drop_cons h]
    refine Ev.pos (by omega) (Ev.pos (by omega) (Ev.ite (fun h1=>Ev.ok ?_) (fun h1=>Ev.eq (ih (j+1) (by omega) (by omega)) ?_)))
    · unfold fewR;rw[List.all_cons,decide_eq_false (by omega)];rfl
    unfold fewR;rw[List.all_cons,decide_eq_true (by omega)];rfl
theorem few_l0 {l:List LnT} (hl:l.length≤20) (d:Nat): ∀ (i:Nat),l.length - i=d→i≤l.length→Ev (fun k=>aW.l0 k l (i:Int)) (fewB (l.drop i)):=by
  induction d with
  |zero=>
    intro i hd hi
    refine Ev.step (fun k=>by simp only[aW.l0];rfl) (Ev.neg (by omega) (Ev.ok ?_))
    rw[List.drop_eq_nil_of_le (by omega)];rfl
  |succ d ih=>
    intro i hd hi
    have h:i < l.length:=by omega
    refine Ev.step (fun k=>by simp only[aW.l0];rfl) (Ev.pos (by omega) (Ev.pos (by omega) ?_))
    rw[rdL h,drop_cons h]
    refine Ev.ite (fun h1=>Ev.ok ?_) (fun h1=>Ev.eq (few_l1 hl h (by omega) (ih (i+1) (by omega) (by omega)) l[i].f4.length 0 (by omega) (by omega)) ?_)
    · unfold fewB;rw[List.all_cons,decide_eq_false (by omega)];rfl
    unfold fewB;rw[List.all_cons,decide_eq_true (by omega),List.drop_zero];rfl
theorem few_f (l:List LnT):Ev (fun k=>aW.f k l) (decide (l.length≤20)&&fewB l):=by
  unfold aW.f
  refine Ev.ite (fun h=>Ev.ok (by rw[decide_eq_false (by omega)];rfl)) (fun h=>?_)
  rw[decide_eq_true (by omega)]
  exact few_l0 (by omega) l.length 0 (by omega) (by omega)
theorem few_p {l:List LnT} (h:(decide (l.length≤20)&&fewB l)=true):fewP l:=by
  rw[Bool.and_eq_true,decide_eq_true_eq] at h
  exact⟨h.1,fewB_iff.1 h.2⟩
def mayB (b c d:Int):Bool:=decide (0≤b∧b≤1000000000000∧0≤c∧c≤b∧0≤d∧d≤1000000000000∧c+d≤1000000000000)
def lineR (a b c d:Int) (s:List ByteArray):Int:=if a < 1∨a > 999999 then 2 else if mayB b c d=true then(if s.length < 1∨s.length > 20 then 9 else if rowG none s=0 then 0 else 9)else 8
theorem in_f3 (a:Int):bK.f a=some (decide (-1000000000000≤a∧a≤1000000000000)):=by
  unfold bK.f
  by_cases h:a≥-1000000000000
  · rw[if_pos h];congr 1;exact decide_eq_decide.2 ⟨fun x=> ⟨h,x⟩,fun x=>x.2⟩
  rw[if_neg h];congr 1;exact(decide_eq_false (fun x=>h x.1)).symm
theorem paid_f3 (a:Int):cB.f a=some (decide (0≤a∧a≤1000000000000)):=by
  unfold cB.f
  by_cases h:a≥0
  · rw[if_pos h,in_f3,Option.bind_some];congr 1;exact decide_eq_decide.2 ⟨fun x=> ⟨h,x.2⟩,fun x=> ⟨by omega,x.2⟩⟩
  rw[if_neg h];congr 1;exact(decide_eq_false (fun x=>h x.1)).symm
theorem price_f (a b c d:Int) (s:List ByteArray):cK.f a b c d s=some (mayB b c d):=by
  unfold cK.f mayB
  rw[paid_f3,paid_f3,paid_f3]
  simp only[Option.bind_some,decide_eq_true_eq]
  by_cases h1:0≤b∧b≤1000000000000
  · by_cases h2:0≤c∧c≤1000000000000
    · by_cases h3:0≤d∧d≤1000000000000
      · by_cases h4:c≤b
        · rw[if_pos h1,if_pos h2,if_pos h3,if_pos h4,in_f3,Option.bind_some,wrap_eq (by omega) (by omega)]
          congr 1;exact decide_eq_decide.2 (by omega)
        rw[if_pos h1,if_pos h2,if_pos h3,if_neg h4];congr 1;exact(decide_eq_false (by omega)).symm
      rw[if_pos h1,if_pos h2,if_neg h3];congr 1;exact(decide_eq_false (by omega)).symm
    rw[if_pos h1,if_neg h2];congr 1;exact(decide_eq_false (by omega)).symm
  rw[if_neg h1];congr 1;exact(decide_eq_false (by omega)).symm
theorem line_check_f {a b c d:Int} {s:List ByteArray} (hs:s.length≤40) (hz: ∀ x ∈ s,x.size≤100):Ev (fun k=>bJ.f k a b c d s) (lineR a b c d s):=by
  unfold bJ.f
  have key: ∀ t:Bool,(t=true↔(a < 1∨a > 999999))→Ev (fun k=>bJ.j0 k t a b c d s a b c d s) (lineR a b c d s):=by
    intro t ht
    unfold lineR
    refine Ev.step (fun k=>by simp only[bJ.j0];rfl) (Ev.ite (fun h=>Ev.ok (by rw[if_pos (ht.1 h)])) (fun h=>?_))
    rw[if_neg (fun g=>h (ht.2 g))]
    refine Ev.bindc (price_f a b c d s) (Ev.ite (fun h1=>?_) (fun h1=>Ev.ok (by rw[if_neg h1])))
    rw[if_pos h1]
    refine Ev.ite (fun h2=>Ev.ok (by rw[if_pos (by omega)])) (fun h2=>Ev.ite (fun h3=>Ev.ok (by rw[if_pos (by omega)])) (fun h3=>?_))
    rw[if_neg (by omega)]
    refine Ev.bind (serial_row_f (by omega) (fun x hx=>by have:=hz x hx;omega)) (Ev.ite (fun h4=>Ev.ok (by rw[if_pos h4])) (fun h4=>Ev.ok (by rw[if_neg h4])))
  refine Ev.ite (fun h=>key true (by simp[h])) (fun h=>key _ (by simp;omega))
theorem ref_line_f {a b c d:Int} {s:List ByteArray} (hc: -9223372036854775808≤c) (hs:s.length≤40) (hz: ∀ x ∈ s,x.size≤100):Ev (fun k=>aE.f k a b c d s) (lineR a b c d s):=by
  unfold aE.f
  have k1: ¬ (a < 1∨a > 999999)→∀ t:Bool,(t=true↔ ¬ mayB b c d=true)→Ev (fun k=>aE.j1 k t a b c d s) (lineR a b c d s):=by
    intro ha t ht
    unfold lineR
    rw[if_neg ha]
    refine Ev.step (fun k=>by simp only[aE.j1];rfl) (Ev.ite (fun h=>Ev.ok (by rw[if_neg (ht.1 h)])) (fun h=>?_))
    rw[if_pos (Classical.byContradiction fun g=>h (ht.2 g))]
    refine Ev.ite (fun h2=>Ev.ok (by rw[if_pos (by omega)])) (fun h2=>Ev.ite (fun h3=>Ev.ok (by rw[if_pos (by omega)])) (fun h3=>?_))
    rw[if_neg (by omega)]
    refine Ev.bind (ref01_row_f (by omega) (fun x hx=>by have:=hz x hx;omega)) (Ev.ite (fun h4=>Ev.ok (by rw[if_pos h4])) (fun h4=>Ev.ok (by rw[if_neg h4])))
  have key: ∀ t:Bool,(t=true↔(a < 1∨a > 999999))→Ev (fun k=>aE.j0 k t a b c d s) (lineR a b c d s):=by
    intro t ht
    refine Ev.step (fun k=>by simp only[aE.j0];rfl) (Ev.ite (fun h=>Ev.ok (by unfold lineR;rw[if_pos (ht.1 h)])) (fun h=>?_))
    have ha: ¬ (a < 1∨a > 999999):=fun g=>h (ht.2 g)
    have no: ¬ (0≤b∧b≤1000000000000∧0≤c∧c≤b∧0≤d∧d≤1000000000000∧c+d≤1000000000000)→(true=true↔ ¬ mayB b c d=true):=fun g=> ⟨fun _ e=>g (of_decide_eq_true e),fun _=>rfl⟩
    refine Ev.ite (fun h1=>k1 ha _ (no (by omega))) (fun h1=>Ev.ite (fun h2=>k1 ha _ (no (by omega))) (fun h2=>Ev.ite (fun h3=>k1 ha _ (no (by omega))) (fun h3=>Ev.ite (fun h4=>k1 ha _ (no (by omega))) (fun h4=>Ev.ite (fun h5=>k1 ha _ (no (by omega))) (fun h5=>Ev.ite (fun h6=>k1 ha _ (no (by omega))) (fun h6=>k1 ha _ ?_))))))
    rw[wrap_eq (by omega) (by omega),decide_eq_true_eq]
    unfold mayB
    rw[decide_eq_true_eq]
    omega
  refine Ev.ite (fun h=>key true (by simp[h])) (fun h=>key _ (by simp;omega))
def linesB (l:List LnT):Bool:=l.all fun x=>decide (lineR x.f0 x.f1 x.f2 x.f3 x.f4=0)
theorem line_amounts {x:LnT} (h:lineR x.f0 x.f1 x.f2 x.f3 x.f4=0):0≤x.f2∧x.f2≤1000000000000∧0≤x.f3∧x.f3≤1000000000000:=by
  unfold lineR at h
  split at h
  · cases h
  split at h
  · rename_i g
    have:=of_decide_eq_true g
    omega
  cases h
def totL:Int→List LnT→Option Int
  |n,[] =>some n
  |n,x::r=>if n+x.f2+x.f3 > 1000000000000 then none else totL (n+x.f2+x.f3) r
def costI (o:Option Int):Int:=match o with
  |some m=>m
  |none=> -1
theorem totL_nonneg: ∀ (l:List LnT) (n m:Int),0≤n→(∀ x ∈ l,0≤x.f2∧0≤x.f3)→totL n l=some m→0≤m
  | [],n,m,hn,_,h=>by simp only[totL,Option.some.injEq] at h;omega
  |x::r,n,m,hn,hx,h=>by
    have h0:=hx x List.mem_cons_self
    simp only[totL] at h
    split at h
    · cases h
    exact totL_nonneg r _ m (by omega) (fun y hy=>hx y (List.mem_cons_of_mem _ hy)) h
theorem w12:wrap64 (1+1)=2:=by rw[wrap_eq (by decide) (by decide)];rfl
theorem w23:wrap64 (2+1)=3:=by rw[wrap_eq (by decide) (by decide)];rfl
theorem cost_l0 {l:List LnT} (hl:l.length≤20) (hx: ∀ x ∈ l,0≤x.f2∧x.f2≤1000000000000∧0≤x.f3∧x.f3≤1000000000000) (d:Nat): ∀ (i:Nat) (n:Int),l.length - i=d→i≤l.length→0≤n→n≤1000000000000→Ev (fun k=>bH.l0 k l n (i:Int)) (costI (totL n (l.drop i))):=by
  induction d with
  |zero=>
    intro i n hd hi h0 h1
    refine Ev.step (fun k=>by simp only[bH.l0];rfl) (Ev.neg (by omega) (Ev.ok ?_))
    rw[List.drop_eq_nil_of_le (by omega)];rfl
  |succ d ih=>
    intro i n hd hi h0 h1
    have h:i < l.length:=by omega
    have hm:=hx l[i] (List.getElem_mem h)
    refine Ev.step (fun k=>by simp only[bH.l0];rfl) (Ev.pos (by omega) (Ev.pos (by omega) ?_))
    rw[rdL h,drop_cons h,wrap_eq (x:=(i:Int)+1) (by omega) (by omega),wrap_eq (x:=n+l[i].f2) (by omega) (by omega),wrap_eq (x:=n+l[i].f2+l[i].f3) (by omega) (by omega)]
    simp only[totL]
    refine Ev.ite (fun h2=>Ev.ok (by rw[if_pos h2];rfl)) (fun h2=>?_)
    rw[if_neg h2]
    exact ih (i+1) _ (by omega) (by omega) (by omega) (by omega)
theorem all_l0' {l:List LnT} (hf:fewP l) (d:Nat): ∀ (i:Nat) (acc:List ByteArray),l.length - i=d→i≤l.length→acc.length≤40 * i→Ev (fun k=>aY.l0 k l acc (i:Int)) (acc++serialsOf (l.drop i)):=by
  induction d with
  |zero=>
    intro i acc hd hi ha
    refine Ev.step (fun k=>by simp only[aY.l0];rfl) (Ev.neg (by omega) (Ev.ok ?_))
    rw[List.drop_eq_nil_of_le (by omega)];simp[serialsOf]
  |succ d ih=>
    intro i acc hd hi ha
    have h:i < l.length:=by omega
    have h20:=hf.1
    have h40:=(hf.2 l[i] (List.getElem_mem h)).1
    refine Ev.step (fun k=>by simp only[aY.l0];rfl) (Ev.pos (by omega) (Ev.pos (by omega) ?_))
    rw[rdL h,drop_cons h,wrap_eq (x:=(i:Int)+1) (by omega) (by omega)]
    refine Ev.pos (by omega) (Ev.eq (ih (i+1) _ (by omega) (by omega) (by rw[List.length_append];omega)) ?_)
    unfold serialsOf
    rw[List.flatMap_cons,List.append_assoc]
theorem serials_len {l:List LnT} (hf:fewP l):(serialsOf l).length≤800:=by
  have: ∀ r:List LnT,(∀ x ∈ r,x.f4.length≤40)→(serialsOf r).length≤40 * r.length:=by
    intro r
    induction r with
    |nil=>intro _;simp[serialsOf]
    |cons x r ih=>
      intro h
      have h1:=h x List.mem_cons_self
      have h2:=ih fun y hy=>h y (List.mem_cons_of_mem _ hy)
      unfold serialsOf at *
      rw[List.flatMap_cons,List.length_append,List.length_cons]
      omega
  have h1:=this l fun x hx=> (hf.2 x hx).1
  have:=hf.1
  omega
theorem twice_l1 {s:List ByteArray} {i:Nat} {r:Bool} (hs:s.length≤800) (hi:i < s.length) (hr:Ev (fun k=>aK.l0 k s ((i+1:Nat):Int)) r) (d:Nat): ∀ (j:Nat),i - j=d→j≤i→Ev (fun k=>aK.l1 k s (i:Int) (j:Int)) (memB ((s.take i).drop j) s[i] ||r):=by
  induction d with
  |zero=>
    intro j hd hj
    refine Ev.step (fun k=>by simp only[aK.l1];rfl) (Ev.neg (by omega) ?_)
    rw[wrap_eq (x:=(i:Int)+1) (by omega) (by omega),List.drop_eq_nil_of_le (by rw[List.length_take];omega)]
    refine Ev.eq hr ?_
    have:memB [] s[i] =false:=by
      rw[←Bool.not_eq_true,memB_iff];simp
    rw[this,Bool.false_or]
  |succ d ih=>
    intro j hd hj
    have hj':j < s.length:=by omega
    have hjt:j < (s.take i).length:=by rw[List.length_take];omega
    refine Ev.step (fun k=>by simp only[aK.l1];rfl) (Ev.pos (by omega) (Ev.pos (by omega) (Ev.pos (by omega) (Ev.pos (by omega) (Ev.pos (by omega) ?_)))))
    rw[rdOf_nat hi,rdOf_nat hj',wrap_eq (x:=(j:Int)+1) (by omega) (by omega),drop_cons hjt,List.getElem_take]
    have hm:memB (s[j] ::(s.take i).drop (j+1)) s[i] =true↔s[i] =s[j]∨memB ((s.take i).drop (j+1)) s[i] =true:=by
      rw[memB_iff,memB_iff,List.mem_cons]
    refine Ev.ite (fun h1=>Ev.ok ?_) (fun h1=>Ev.eq (ih (j+1) (by omega) (by omega)) ?_)
    · rw[hm.2 (.inl (bytes_ext.1 h1)),Bool.true_or]
    congr 1
    rw[Bool.eq_iff_iff,hm]
    exact⟨.inr,fun h=>h.resolve_left fun e=>h1 (by rw[e])⟩
theorem twice_l0 {s:List ByteArray} (hs:s.length≤800) (d:Nat): ∀ (i:Nat),s.length - i=d→i≤s.length→Ev (fun k=>aK.l0 k s (i:Int)) (dupB (s.take i) (s.drop i)):=by
  induction d with
  |zero=>
    intro i hd hi
    refine Ev.step (fun k=>by simp only[aK.l0];rfl) (Ev.neg (by omega) (Ev.ok ?_))
    rw[List.drop_eq_nil_of_le (by omega)];rfl
  |succ d ih=>
    intro i hd hi
    have h:i < s.length:=by omega
    refine Ev.step (fun k=>by simp only[aK.l0];rfl) (Ev.pos (by omega) ?_)
    refine Ev.eq (twice_l1 hs h (ih (i+1) (by omega) (by omega)) i 0 (by omega) (by omega)) ?_
    rw[drop_cons h,List.drop_zero]
    simp only[dupB]
    rw[List.take_append_getElem h]
theorem ref_twice_f {s:List ByteArray} (hs:s.length≤800):Ev (fun k=>aK.f k s) (dupB [] s):=by
  unfold aK.f
  exact twice_l0 hs s.length 0 (by omega) (by omega)
theorem order_twice_f {l:List LnT} (hf:fewP l):cN.f l=some (dupB [] (serialsOf l)):=by
  unfold cN.f
  have hn:=serials_len hf
  rw[if_pos]
  refine⟨?_,?_⟩
  · rw[List.all_eq_true]
    intro x hx
    rw[List.all_eq_true]
    intro s hs
    have:=(hf.2 x hx).2 s hs
    exact decide_eq_true (by unfold maxLen;omega)
  unfold maxLen;omega
def finB (l:List LnT):Bool:=(totL 0 l).isSome&&!dupB [] (serialsOf l)
def ordR (a b:Int) (l:List LnT):Int:=if(1≤a∧a≤999999∧0≤b∧b≤1000000∧1≤l.length∧l.length≤8)∧linesB l=true∧finB l=true then 0 else 40
theorem lines_amounts {l:List LnT} (h:linesB l=true): ∀ x ∈ l,0≤x.f2∧x.f2≤1000000000000∧0≤x.f3∧x.f3≤1000000000000:=fun x hx=>line_amounts (of_decide_eq_true (List.all_eq_true.1 h x hx))
theorem lines_step {l:List LnT} {i:Nat} (h:i < l.length) (hp: ∀ j (hj:j < l.length),j < i→lineR l[j].f0 l[j].f1 l[j].f2 l[j].f3 l[j].f4=0) (h1:lineR l[i].f0 l[i].f1 l[i].f2 l[i].f3 l[i].f4=0): ∀ j (hj:j < l.length),j < i+1→lineR l[j].f0 l[j].f1 l[j].f2 l[j].f3 l[j].f4=0:=fun j hj hji=>by
  by_cases e:j=i
  · subst e;exact h1
  exact hp j hj (by omega)
theorem lines_all {l:List LnT} (hp: ∀ j (hj:j < l.length),j < l.length→lineR l[j].f0 l[j].f1 l[j].f2 l[j].f3 l[j].f4=0):linesB l=true:=by
  unfold linesB
  rw[List.all_eq_true]
  intro x hx
  obtain⟨j,hj,rfl⟩:=List.mem_iff_getElem.1 hx
  exact decide_eq_true (hp j hj hj)
theorem lines_not {l:List LnT} {i:Nat} (h:i < l.length) (h1: ¬ lineR l[i].f0 l[i].f1 l[i].f2 l[i].f3 l[i].f4=0): ¬ linesB l=true:=fun g=>h1 (of_decide_eq_true (List.all_eq_true.1 g l[i] (List.getElem_mem h)))
theorem ref_order_l0 {a b:Int} {l:List LnT} (hf:fewP l) (hw: ∀ x ∈ l,-9223372036854775808≤x.f2) (hh:1≤a∧a≤999999∧0≤b∧b≤1000000∧1≤l.length∧l.length≤8) (d:Nat): ∀ (i:Nat),l.length - i=d→i≤l.length→(∀ j (hj:j < l.length),j < i→lineR l[j].f0 l[j].f1 l[j].f2 l[j].f3 l[j].f4=0)→Ev (fun k=>aI.l0 k (i:Int) a b l) (ordR a b l):=by
  have h20:=hf.1
  induction d with
  |zero=>
    intro i hd hi hp
    have hb:=lines_all (fun j hj _=>hp j hj (by omega))
    have ha:=lines_amounts hb
    have ht:Ev (fun k=>bH.f k l) (costI (totL 0 l)):=by
      unfold bH.f
      exact cost_l0 h20 ha l.length 0 0 (by omega) (by omega) (by omega) (by omega)
    have hall:Ev (fun k=>aY.f k l) (serialsOf l):=by
      unfold aY.f
      exact all_l0' hf l.length 0 [] (by omega) (by omega) (by simp)
    refine Ev.step (fun k=>by simp only[aI.l0];rfl) (Ev.neg (by omega) (Ev.bind ht ?_))
    unfold ordR finB
    cases e:totL 0 l with
    |none=>exact Ev.pos (by decide) (Ev.ok (by rw[if_neg];simp))
    |some m=>
      have hm:=totL_nonneg l 0 m (by omega) (fun x hx=> ⟨(ha x hx).1,(ha x hx).2.2.1⟩) e
      refine Ev.neg (by show ¬ m < 0;omega) (Ev.bind hall (Ev.bind (ref_twice_f (serials_len hf)) (Ev.ite (fun h1=>Ev.ok (by rw[if_neg];simp[h1])) (fun h1=>Ev.ok (by rw[if_pos];exact⟨hh,hb,by simp[h1]⟩)))))
  |succ d ih=>
    intro i hd hi hp
    have h:i < l.length:=by omega
    have hx:=hf.2 l[i] (List.getElem_mem h)
    refine Ev.step (fun k=>by simp only[aI.l0];rfl) (Ev.pos (by omega) (Ev.pos (by omega) ?_))
    rw[rdL h,wrap_eq (x:=(i:Int)+1) (by omega) (by omega)]
    refine Ev.bind (ref_line_f (hw l[i] (List.getElem_mem h)) hx.1 hx.2) (Ev.ite (fun h1=>ih (i+1) (by omega) (by omega) (lines_step h hp h1)) (fun h1=>Ev.ok ?_))
    unfold ordR
    rw[if_neg fun g=>lines_not h h1 g.2.1]
theorem ref_order_f {a b:Int} {l:List LnT} (hf:fewP l) (hw: ∀ x ∈ l,-9223372036854775808≤x.f2):Ev (fun k=>aI.f k a b l) (ordR a b l):=by
  unfold aI.f
  have bad: ¬ (1≤a∧a≤999999∧0≤b∧b≤1000000∧1≤l.length∧l.length≤8)→Ev (fun k=>aI.j0 k true a b l) (ordR a b l):=fun g=>
    Ev.step (fun k=>by simp only[aI.j0];rfl) (Ev.pos (by trivial) (Ev.ok (by unfold ordR;rw[if_neg fun x=>g x.1])))
  refine Ev.ite (fun h1=>bad (by omega)) (fun h1=>Ev.ite (fun h2=>bad (by omega)) (fun h2=>Ev.ite (fun h3=>bad (by omega)) (fun h3=>Ev.ite (fun h4=>bad (by omega)) (fun h4=>Ev.ite (fun h5=>bad (by omega)) (fun h5=>?_)))))
  by_cases h6:(l.length:Int) > 8
  · rw[decide_eq_true h6];exact bad (by omega)
  rw[decide_eq_false h6]
  exact Ev.step (fun k=>by simp only[aI.j0];rfl) (Ev.neg (by simp) (ref_order_l0 hf hw (by omega) l.length 0 (by omega) (by omega) (fun j hj h=>by omega)))
def LR (x:LnT):Int:=lineR x.f0 x.f1 x.f2 x.f3 x.f4
def fewX (s:List ByteArray):Prop:=s.length≤40∧∀ x ∈ s,x.size≤100
theorem fewX_of {l:List LnT} (h:fewP l) {x:LnT} (hx:x ∈ l):fewX x.f4:=h.2 x hx
theorem lineR_ok {a b c d:Int} {s:List ByteArray} (h:lineR a b c d s=0):1≤a∧a≤999999∧0≤b∧b≤1000000000000∧0≤c∧c≤b∧0≤d∧d≤1000000000000∧c+d≤1000000000000∧1≤s.length∧s.length≤20:=by
  unfold lineR at h
  split at h
  · cases h
  split at h
  · rename_i g
    have:=of_decide_eq_true g
    split at h
    · cases h
    omega
  cases h
theorem add_two {p q:Int} (hp:0≤p) (hq:0≤q):sumS 0 [p,q] =if 1000000000000 < p+q then(0,8)else(p+q,0):=by
  rw[sumS_nonneg (by omega) (by omega) (fun x hx=>by simp at hx;rcases hx with rfl|rfl <;> assumption)]
  simp[sumI]
def sumLS:Int→Int→Int→List LnT→Int × Int × Int × Int
  |a,b,c,[] => (a,b,c,0)
  |a,b,c,x::l=>if LR x=0 then(if 1000000000000 < a+x.f1∨1000000000000 < b+x.f2∨1000000000000 < c+x.f3 then(0,0,0,8)else sumLS (a+x.f1) (b+x.f2) (c+x.f3) l)else(0,0,0,LR x)
theorem sum_l0 {l:List LnT} (hf:fewP l) (d:Nat): ∀ (i:Nat) (a b c:Int),l.length - i=d→i≤l.length→0≤a→a≤1000000000000→0≤b→b≤1000000000000→0≤c→c≤1000000000000→Ev (fun k=>cD.l0 k a b c l (l.length:Int) (i:Int)) (sumLS a b c (l.drop i)):=by
  have hl:=hf.1
  induction d with
  |zero=>
    intro i a b c hd hi ha ha2 hb hb2 hc hc2
    refine Ev.step (fun k=>by simp only[cD.l0];rfl) (Ev.neg (by omega) (Ev.ok ?_))
    rw[List.drop_eq_nil_of_le (by omega)];rfl
  |succ d ih=>
    intro i a b c hd hi ha ha2 hb hb2 hc hc2
    have h:i < l.length:=by omega
    have hx:=fewX_of hf (List.getElem_mem h)
    refine Ev.step (fun k=>by simp only[cD.l0];rfl) (Ev.pos (by omega) (Ev.pos (by omega) (Ev.pos (by omega) ?_)))
    rw[rdL h,drop_cons h,wrap_eq (x:=(i:Int)+1) (by omega) (by omega)]
    unfold sumLS
    refine Ev.bind (line_check_f hx.1 hx.2) (Q.Ev.ite (fun e=>?_) (fun e=>Ev.ok (by unfold LR;rw[if_neg e])))
    have ho:=lineR_ok e
    rw[if_pos (show LR l[i] =0 from e)]
    refine Ev.bind (cents_Add_f (by simp)) (Ev.bind (cents_Add_f (by simp)) (Ev.bind (cents_Add_f (by simp)) ?_))
    rw[add_two (by omega) (by omega),add_two (by omega) (by omega),add_two (by omega) (by omega)]
    by_cases c1:1000000000000 < a+l[i].f1
    · rw[if_pos (show 1000000000000 < a+l[i].f1∨1000000000000 < b+l[i].f2∨1000000000000 < c+l[i].f3 from .inl c1)];simp only[if_pos c1];exact Ev.neg (by decide) (Ev.const rfl)
    simp only[if_neg c1]
    refine Ev.pos (by first|rfl|trivial) ?_
    by_cases c2:1000000000000 < b+l[i].f2
    · rw[if_pos (show 1000000000000 < a+l[i].f1∨1000000000000 < b+l[i].f2∨1000000000000 < c+l[i].f3 from .inr (.inl c2))];simp only[if_pos c2];exact Ev.neg (by decide) (Ev.const rfl)
    simp only[if_neg c2]
    refine Ev.pos (by first|rfl|trivial) ?_
    by_cases c3:1000000000000 < c+l[i].f3
    · rw[if_pos (show 1000000000000 < a+l[i].f1∨1000000000000 < b+l[i].f2∨1000000000000 < c+l[i].f3 from .inr (.inr c3))];simp only[if_pos c3];exact Ev.neg (by decide) (Ev.const rfl)
    simp only[if_neg c3]
    rw[if_neg (show ¬ (1000000000000 < a+l[i].f1∨1000000000000 < b+l[i].f2∨1000000000000 < c+l[i].f3) by omega)]
    exact Ev.pos (by first|rfl|trivial) (ih (i+1) _ _ _ (by omega) (by omega) (by omega) (by omega) (by omega) (by omega) (by omega) (by omega))
theorem sum_f {l:List LnT} (hf:fewP l):Ev (fun k=>cD.f k l) (sumLS 0 0 0 l):=by
  unfold cD.f
  exact sum_l0 hf l.length 0 0 0 0 (by omega) (by omega) (by omega) (by omega) (by omega) (by omega) (by omega) (by omega)
theorem rdA {A B:List LnT} {x:LnT} {i:Nat} (h:A.length=i):rd_T71 (A++x::B) (i:Int)=x:=by
  subst h
  rw[rdL (by simp)];simp
theorem setA {A B:List LnT} {x v:LnT} {i:Nat} (h:A.length=i):(A++x::B).set ((i:Int)).toNat v=A++v::B:=by
  subst h;simp
theorem rdI {A B:List Int} {x:Int} {i:Nat} (h:A.length=i):rd (A++x::B) (i:Int)=x:=by
  subst h
  rw[rd_nat (by simp)];simp
theorem setI {A B:List Int} {x v:Int} {i:Nat} (h:A.length=i):(A++x::B).set ((i:Int)).toNat v=A++v::B:=by
  subst h;simp
def zeroX (x:LnT):LnT:=⟨x.f0,x.f1,0,0,x.f4⟩
def lessX (x:LnT) (q:Int):LnT:=⟨x.f0,x.f1,x.f1 - q,x.f3,x.f4⟩
def taxX (x:LnT) (m:Int):LnT:=⟨x.f0,x.f1,x.f2,m,x.f4⟩
def bareE:List LnT→Int
  | [] =>0
  |x::l=>if LR (zeroX x)=0 then bareE l else LR (zeroX x)
def taxE:List LnT→List Int→Int
  |x::l,m::r=>if LR (taxX x m)=0 then taxE l r else LR (taxX x m)
  |_,_=>0
def grossL (l:List LnT):List Int:=l.map fun x=>x.f1
def netL (l:List LnT):List Int:=l.map fun x=>x.f2
theorem bare_l0 {n:Int} (hn:n≤20): ∀ (B A:List LnT),((A++B).length:Int)=n→(∀ x ∈ B,fewX x.f4)→Ev (fun k=>bL.l0 k (A++B) n (A.length:Int)) (if bareE B=0 then(A++B.map zeroX,0)else([],bareE B))
  | [],A,h,_=>by
    simp only[List.length_append,List.length_nil] at h
    refine Ev.step (fun k=>by simp only[bL.l0];rfl) (Ev.neg (by omega) (Ev.ok ?_))
    simp[bareE]
  |x::B,A,h,hx=>by
    have h2:=h
    simp only[List.length_append,List.length_cons] at h
    have hxx:=hx x List.mem_cons_self
    refine Ev.step (fun k=>by simp only[bL.l0];rfl) (Ev.pos (by omega) (Ev.pos (by omega) (Ev.pos (by simp only[List.length_append,List.length_cons];omega) ?_)))
    simp only[rdA rfl,setA rfl]
    refine Q.Ev.bindc rfl ?_
    simp only[rdA rfl,setA rfl]
    refine Q.Ev.bindc rfl ?_
    simp only[rdA rfl,setA rfl]
    rw[wrap_eq (by omega) (by omega)]
    refine Ev.bind (line_check_f hxx.1 hxx.2) ?_
    have e:lineR x.f0 x.f1 0 0 x.f4=LR (zeroX x):=rfl
    rw[e]
    refine Q.Ev.ite (fun g => ?_) (fun g => Ev.ok (by have e2 : bareE (x :: B) = LR (zeroX x) := by simp only [bareE, if_neg g]
                                                      simp only[e2];rw[if_neg g]))
    have e2:bareE (x::B)=bareE B:=by simp only[bareE,if_pos g]
    simp only[e2]
    have:=bare_l0 hn B (A++ [zeroX x]) (by simp only[List.length_append,List.length_cons,List.length_nil] at h2⊢;omega) (fun y hy=>hx y (List.mem_cons_of_mem _ hy))
    simp only[List.length_append,List.length_cons,List.length_nil,List.append_assoc,List.singleton_append,List.map_cons] at this⊢
    exact this
theorem clone_f {l:List LnT} (h:l.length≤20):dD.f l=some l:=by
  unfold dD.f
  rw[if_pos (by omega)]
def bareS (l:List LnT):List LnT × Int:=if l.length < 1∨8 < l.length then([],2)else if bareE l=0 then(l.map zeroX,0)else([],bareE l)
theorem bare_f {l:List LnT} (hf:fewP l):Ev (fun k=>bL.f k l) (bareS l):=by
  have hl:=hf.1
  unfold bL.f bareS
  have j0: ∀ t:Bool,(t=true↔(l.length < 1∨8 < l.length))→Ev (fun k=>bL.j0 k l t) (if l.length < 1∨8 < l.length then([],2)else if bareE l=0 then(l.map zeroX,0)else([],bareE l)):=by
    intro t ht
    refine Ev.step (fun k=>by simp only[bL.j0];rfl) (Q.Ev.ite (fun g=>Ev.ok (by rw[if_pos (ht.1 g)])) (fun g=>?_))
    rw[if_neg (fun q=>g (ht.2 q))]
    refine Q.Ev.bindc (clone_f hl) ?_
    have:=bare_l0 (n:=(l.length:Int)) (by omega) l [] (by simp) (fun x hx=>hf.2 x hx)
    simpa using this
  exact Q.Ev.ite (fun g=>j0 true ⟨fun _=>by omega,fun _=>rfl⟩) (fun g=>j0 _ ⟨fun q=>by have:=of_decide_eq_true q;omega,fun q=>decide_eq_true (by omega)⟩)
theorem bareE_good: ∀ {l:List LnT},bareE l=0→∀ x ∈ l,LR (zeroX x)=0
  | [],_,x,hx=>by cases hx
  |y::l,h,x,hx=>by
    simp only[bareE] at h
    by_cases g:LR (zeroX y)=0
    · rw[if_pos g] at h
      rcases List.mem_cons.1 hx with rfl|hx
      · exact g
      exact bareE_good h x hx
    rw[if_neg g] at h;exact absurd h g
theorem lineR_amounts {a b c d c' d':Int} {s:List ByteArray} (h:lineR a b c' d' s=0):lineR a b c d s=if mayB b c d=true then 0 else 8:=by
  have ho:=lineR_ok h
  unfold lineR at h⊢
  rw[if_neg (by omega)] at h⊢
  by_cases g:mayB b c' d'=true
  · rw[if_pos g,if_neg (by omega)] at h
    by_cases g2:mayB b c d=true
    · rw[if_pos g2,if_pos g2,if_neg (by omega)]
      exact h
    rw[if_neg g2,if_neg g2]
  rw[if_neg g] at h;cases h
theorem gross_l0 {n:Int} (hn:n≤20): ∀ (B A:List LnT),((A++B).length:Int)=n→Ev (fun k=>aU.l0 k (grossL A++List.replicate B.length 0) (A++B) n (A.length:Int)) (grossL (A++B))
  | [],A,h=>by
    simp only[List.length_append,List.length_nil] at h
    refine Ev.step (fun k=>by simp only[aU.l0];rfl) (Ev.neg (by omega) (Ev.ok ?_))
    simp
  |x::B,A,h=>by
    have h2:=h
    simp only[List.length_append,List.length_cons] at h
    refine Ev.step (fun k=>by simp only[aU.l0];rfl) (Ev.pos (by omega) (Ev.pos (by omega) (Ev.pos (by simp only[List.length_append,List.length_cons];omega) ?_)))
    simp only[rdA rfl]
    refine Q.Ev.bindc (show dE.f x.f0 x.f1 x.f2 x.f3 x.f4=some x.f1 from rfl) (Ev.pos (by simp[grossL];omega) ?_)
    rw[List.length_cons,List.replicate_succ,setI (show(grossL A).length=A.length by simp[grossL]),wrap_eq (by omega) (by omega)]
    have:=gross_l0 hn B (A++ [x]) (by simp only[List.length_append,List.length_cons,List.length_nil] at h2⊢;omega)
    simp only[List.length_append,List.length_cons,List.length_nil,List.append_assoc,List.singleton_append,grossL,List.map_append,List.map_cons,List.map_nil] at this⊢
    exact this
theorem net_l0 {n:Int} (hn:n≤20): ∀ (B A:List LnT),((A++B).length:Int)=n→Ev (fun k=>bE.l0 k (netL A++List.replicate B.length 0) (A++B) n (A.length:Int)) (netL (A++B))
  | [],A,h=>by
    simp only[List.length_append,List.length_nil] at h
    refine Ev.step (fun k=>by simp only[bE.l0];rfl) (Ev.neg (by omega) (Ev.ok ?_))
    simp
  |x::B,A,h=>by
    have h2:=h
    simp only[List.length_append,List.length_cons] at h
    refine Ev.step (fun k=>by simp only[bE.l0];rfl) (Ev.pos (by omega) (Ev.pos (by omega) (Ev.pos (by simp only[List.length_append,List.length_cons];omega) ?_)))
    simp only[rdA rfl]
    refine Q.Ev.bindc (show dF.f x.f0 x.f1 x.f2 x.f3 x.f4=some x.f2 from rfl) (Ev.pos (by simp[netL];omega) ?_)
    rw[List.length_cons,List.replicate_succ,setI (show(netL A).length=A.length by simp[netL]),wrap_eq (by omega) (by omega)]
    have:=net_l0 hn B (A++ [x]) (by simp only[List.length_append,List.length_cons,List.length_nil] at h2⊢;omega)
    simp only[List.length_append,List.length_cons,List.length_nil,List.append_assoc,List.singleton_append,netL,List.map_append,List.map_cons,List.map_nil] at this⊢
    exact this
theorem gross_f {l:List LnT} (h:l.length≤20):Ev (fun k=>aU.f k l) (grossL l):=by
  unfold aU.f
  refine Ev.pos (by omega) (Ev.pos (by rw[Int.toNat_natCast];omega) ?_)
  rw[Int.toNat_natCast]
  have:=gross_l0 (n:=(l.length:Int)) (by omega) l [] (by simp)
  simpa [grossL] using this
theorem net_f {l:List LnT} (h:l.length≤20):Ev (fun k=>bE.f k l) (netL l):=by
  unfold bE.f
  refine Ev.pos (by omega) (Ev.pos (by rw[Int.toNat_natCast];omega) ?_)
  rw[Int.toNat_natCast]
  have:=net_l0 (n:=(l.length:Int)) (by omega) l [] (by simp)
  simpa [netL] using this
theorem rest_last {t s:Int} {l:List Int} (hs:sumI l=s) (h0:0 < s) {i:Nat} (hr:rst t s (wt l i)=0):leftI t s l≤(rank (fun j=>rst t s (wt l j)) l.length i:Int):=by
  obtain⟨_,h1,_⟩:=left_bound (t:=t) hs h0
  have hc:l.countP (fun w=>decide (0 < rst t s w))=(List.range l.length).countP (fun j=>decide (0 < rst t s (wt l j))):=by
    have:=congrArg (List.countP (fun w=>decide (0 < rst t s w))) (range_map l 0)
    rw[List.countP_map] at this
    exact this.symm
  have hle:(List.range l.length).countP (fun j=>decide (0 < rst t s (wt l j)))≤rank (fun j=>rst t s (wt l j)) l.length i:=by
    refine List.countP_mono_left fun j hj h=>?_
    rw[bef_iff]
    have h:0 < rst t s (wt l j):=by simpa using h
    left
    show rst t s (wt l j) > rst t s (wt l i)
    omega
  omega
theorem out_le {t s:Int} {l:List Int} (hs:sumI l=s) (h0:0 < s) (ht:0≤t) (hts:t≤s) (hn: ∀ x ∈ l,0≤x) {i:Nat} (hi:i < l.length):0≤outAt t s l i∧outAt t s l i≤wt l i:=by
  have hw:wt l i=l[i] :=by unfold wt;simp[List.getD_eq_getElem?_getD,hi]
  have hx:=hn _ (List.getElem_mem hi)
  rw[←hw] at hx
  have h1:t * wt l i≤s * wt l i:=Int.mul_le_mul_of_nonneg_right hts hx
  have h2:=Int.emod_add_mul_ediv (t * wt l i) s
  have h3:0≤prt t s (wt l i):=Int.ediv_nonneg (Int.mul_nonneg ht hx) (by omega)
  have h4:prt t s (wt l i)≤wt l i:=Int.ediv_le_of_le_mul h0 (by rw[Int.mul_comm (wt l i)];exact h1)
  unfold outAt
  by_cases c:(rank (fun j=>rst t s (wt l j)) l.length i:Int) < leftI t s l
  · rw[if_pos c]
    have hr:rst t s (wt l i)≠0:=fun e=>by have:=rest_last hs h0 e;omega
    have hr0:0≤rst t s (wt l i):=Int.emod_nonneg _ (by omega)
    have:prt t s (wt l i)≠wt l i:=fun e=>by
      unfold prt at e
      unfold rst at hr hr0
      rw[e] at h2
      omega
    omega
  rw[if_neg c];omega
theorem out_of_nothing {s:Int} {l:List Int} {i:Nat} :outAt 0 s l i=0:=by
  unfold outAt
  rw[left_zero,if_neg (by omega)]
  unfold prt;simp
theorem sumI_gross_nonneg {l:List LnT} (h: ∀ x ∈ l,0≤x.f1): ∀ y ∈ grossL l,0≤y:=fun y hy=>by
  obtain⟨x,hx,rfl⟩:=List.mem_map.1 hy
  exact h x hx
def netsOf (l:List LnT) (d:Int):List LnT:=List.zipWith lessX (l.map zeroX) (outS d (grossL l)).1
def finOf (l:List LnT) (d t:Int):List LnT:=List.zipWith taxX (netsOf l d) (outS t (netL (netsOf l d))).1
def dealS (l:List LnT) (d t:Int):List LnT × Int:=
  if(bareS l).2=0 then(if 1000000000000 < sumI (grossL l)then([],8)else if d < 0∨1000000000000 < d∨t < 0∨1000000000000 < t then([],8)else if sumI (grossL l) < d then([],34)else if linesB (finOf l d t)=true then(finOf l d t,0)else([],8))else([],(bareS l).2)
theorem bareS_ok {l:List LnT} (h:(bareS l).2=0):1≤l.length∧l.length≤8∧bareE l=0∧bareS l=(l.map zeroX,0):=by
  unfold bareS at h⊢
  by_cases c:l.length < 1∨8 < l.length
  · rw[if_pos c] at h;cases h
  rw[if_neg c] at h⊢
  by_cases e:bareE l=0
  · rw[if_pos e];exact⟨by omega,by omega,e,rfl⟩
  rw[if_neg e] at h;exact absurd h e
theorem gross_zero (l:List LnT):grossL (l.map zeroX)=grossL l:=by
  unfold grossL;rw[List.map_map];rfl
structure Deals (l:List LnT) (d t:Int):Prop where
  few:l.length≤8
  some:1≤l.length
  good: ∀ x ∈ l,LR (zeroX x)=0
  pos: ∀ x ∈ l,0≤x.f1∧x.f1≤1000000000000
  sum:sumI (grossL l)≤1000000000000
  d0:0≤d
  d1:d≤sumI (grossL l)
  t0:0≤t
  t1:t≤1000000000000
theorem deals_of {l:List LnT} {d t:Int} (h:(bareS l).2=0) (h1: ¬ 1000000000000 < sumI (grossL l)) (h2: ¬ (d < 0∨1000000000000 < d∨t < 0∨1000000000000 < t)) (h3: ¬ sumI (grossL l) < d):Deals l d t:=by
  obtain⟨a,b,c,_⟩:=bareS_ok h
  have hg:=bareE_good c
  exact⟨b,a,hg,fun x hx=>by have:=lineR_ok (hg x hx);exact⟨this.2.2.1,this.2.2.2.1⟩,by omega,by omega,by omega,by omega,by omega⟩
section
variable {l:List LnT} {d t:Int} (D:Deals l d t)
theorem wholeG {g:List Int} (h1:1≤g.length) (h2:g.length≤200) (hp: ∀ x ∈ g,0≤x) (hs:sumI g≤1000000000000):(wholeS g).2=0∧(sumI g≠0→(wholeS g).1=sumI g):=by
  unfold wholeS
  rw[if_neg (by omega),if_neg (by rw[negs_false.2 hp];decide),if_neg (by omega)]
  by_cases c:sumI g=0
  · rw[if_pos c];exact⟨rfl,fun h=>absurd c h⟩
  rw[if_neg c];exact⟨rfl,fun _=>rfl⟩
theorem gross_len (l:List LnT):(grossL l).length=l.length:=by unfold grossL;simp
theorem net_len (l:List LnT):(netL l).length=l.length:=by unfold netL;simp
theorem outS_at {t:Int} {g:List Int} (hw:(wholeS g).2=0) (ht:0≤t) (ht2:t≤1000000000000):outS t g=(outL t (wholeS g).1 (eff g),0):=by
  unfold outS;rw[if_pos hw,if_neg (by omega)]
include D
theorem Deals.whole:(wholeS (grossL l)).2=0:=(wholeG (by rw[gross_len];exact D.some) (by rw[gross_len];have:=D.few;omega) (sumI_gross_nonneg fun x hx=> (D.pos x hx).1) D.sum).1
theorem Deals.less:outS d (grossL l)=(outL d (wholeS (grossL l)).1 (eff (grossL l)),0):=outS_at D.whole D.d0 (by have:=D.d1;have:=D.sum;omega)
theorem Deals.less_len:(outS d (grossL l)).1.length=l.length:=by rw[D.less];unfold outL;simp[eff_len,gross_len]
theorem Deals.less_at {i:Nat} (hi:i < l.length):0≤(outS d (grossL l)).1.getD i 0∧(outS d (grossL l)).1.getD i 0≤l[i].f1:=by
  have hp:=sumI_gross_nonneg fun x hx=> (D.pos x hx).1
  have hx:=D.pos _ (List.getElem_mem hi)
  have e:(outS d (grossL l)).1.getD i 0=outAt d (wholeS (grossL l)).1 (eff (grossL l)) i:=by
    rw[D.less]
    unfold outL
    simp[List.getD_eq_getElem?_getD,eff_len,gross_len,hi]
  rw[e]
  by_cases c:sumI (grossL l)=0
  · have d0:d=0:=by have:=D.d0;have:=D.d1;omega
    rw[d0,out_of_nothing];omega
  have hs:sumI (eff (grossL l))=(wholeS (grossL l)).1:=(whole_ok D.whole).2.2.2.2.2.2.1
  have he:eff (grossL l)=grossL l:=by unfold eff;rw[if_neg c]
  have hw:=(wholeG (by rw[gross_len];exact D.some) (by rw[gross_len];have:=D.few;omega) hp D.sum).2 c
  have h0:=sumI_nonneg hp
  have:=out_le (t:=d) (s:=(wholeS (grossL l)).1) (l:=grossL l) hw.symm (by rw[hw];omega) D.d0 (by rw[hw];exact D.d1) hp (i:=i) (by rw[gross_len];exact hi)
  rw[he]
  have e2:wt (grossL l) i=l[i].f1:=by unfold wt grossL;simp[List.getD_eq_getElem?_getD,hi]
  rw[e2] at this
  exact this
theorem Deals.nets_len:(netsOf l d).length=l.length:=by unfold netsOf;rw[List.length_zipWith,List.length_map,D.less_len];omega
theorem Deals.nets_at {i:Nat} (hi:i < l.length):(netsOf l d)[i]'(by rw[D.nets_len];exact hi)=⟨l[i].f0,l[i].f1,l[i].f1 - (outS d (grossL l)).1.getD i 0,0,l[i].f4⟩:=by
  unfold netsOf
  rw[List.getElem_zipWith]
  have h2:i < (outS d (grossL l)).1.length:=by rw[D.less_len];exact hi
  simp[lessX,zeroX,List.getD_eq_getElem?_getD,h2]
theorem Deals.net_pos: ∀ y ∈ netL (netsOf l d),0≤y∧y≤1000000000000:=fun y hy=>by
  obtain⟨x,hx,rfl⟩:=List.mem_map.1 hy
  obtain⟨i,hi,rfl⟩:=List.mem_iff_getElem.1 hx
  have hi2:i < l.length:=by rw[D.nets_len] at hi;exact hi
  rw[D.nets_at hi2]
  have h1:=D.less_at hi2
  have h2:=D.pos _ (List.getElem_mem hi2)
  dsimp only
  omega
omit D in
theorem sumI_range (n:Nat) (f:Nat→Int) (l:List Int) (h:l.length=n) (hf: ∀ i (hi:i < l.length),l[i] =f i):sumI l=sumI ((List.range n).map f):=by
  congr 1
  apply List.ext_getElem
  · simp[h]
  intro i h1 h2
  rw[hf i h1];simp
omit D in
theorem sumI_sub (n:Nat) (f g:Nat→Int):sumI ((List.range n).map fun i=>f i - g i)=sumI ((List.range n).map f) - sumI ((List.range n).map g):=by
  have:=sumI_add (List.range n) (fun i=>f i - g i) g
  have e:(List.range n).map (fun i=>f i - g i+g i)=(List.range n).map f:=List.map_congr_left fun i _=>by omega
  rw[e] at this
  omega
theorem Deals.less_sum:sumI (outS d (grossL l)).1=d:=by
  rw[D.less]
  exact out_sum (whole_ok D.whole).2.2.2.2.2.2.1 (by have:=(whole_ok D.whole).2.2.2.2.1;omega)
theorem Deals.net_sum:sumI (netL (netsOf l d))=sumI (grossL l) - d:=by
  have e1:=sumI_range l.length (fun i=> (grossL l).getD i 0 - (outS d (grossL l)).1.getD i 0) (netL (netsOf l d)) (by rw[net_len,D.nets_len]) (fun i hi=>by
    have hi2:i < l.length:=by rw[net_len,D.nets_len] at hi;exact hi
    rw[show(netL (netsOf l d))[i] =((netsOf l d)[i]'(by rw[D.nets_len];exact hi2)).f2 from List.getElem_map _,D.nets_at hi2]
    simp[grossL,List.getD_eq_getElem?_getD,hi2])
  have e2:=sumI_range l.length (fun i=> (grossL l).getD i 0) (grossL l) (gross_len l) (fun i hi=>by simp[List.getD_eq_getElem?_getD,hi])
  have e3:=sumI_range l.length (fun i=> (outS d (grossL l)).1.getD i 0) (outS d (grossL l)).1 D.less_len (fun i hi=>by simp[List.getD_eq_getElem?_getD,hi])
  rw[e1,sumI_sub,←e2,←e3,D.less_sum]
theorem Deals.whole2:(wholeS (netL (netsOf l d))).2=0:=(wholeG (by rw[net_len,D.nets_len];exact D.some) (by rw[net_len,D.nets_len];have:=D.few;omega) (fun y hy=> (D.net_pos y hy).1) (by rw[D.net_sum];have:=D.sum;have:=D.d0;omega)).1
theorem Deals.more:outS t (netL (netsOf l d))=(outL t (wholeS (netL (netsOf l d))).1 (eff (netL (netsOf l d))),0):=outS_at D.whole2 D.t0 D.t1
theorem Deals.more_len:(outS t (netL (netsOf l d))).1.length=l.length:=by rw[D.more];unfold outL;simp[eff_len,net_len,D.nets_len]
theorem Deals.fin_len:(finOf l d t).length=l.length:=by unfold finOf;rw[List.length_zipWith,D.nets_len,D.more_len];omega
theorem Deals.fin_at {i:Nat} (hi:i < l.length):(finOf l d t)[i]'(by rw[D.fin_len];exact hi)=⟨l[i].f0,l[i].f1,l[i].f1 - (outS d (grossL l)).1.getD i 0,(outS t (netL (netsOf l d))).1.getD i 0,l[i].f4⟩:=by
  have h2:i < (outS t (netL (netsOf l d))).1.length:=by rw[D.more_len];exact hi
  have h3:i < (netsOf l d).length:=by rw[D.nets_len];exact hi
  have e:=D.nets_at hi
  unfold finOf
  rw[List.getElem_zipWith,e]
  simp[taxX,List.getD_eq_getElem?_getD,h2]
theorem Deals.more_sum:sumI (outS t (netL (netsOf l d))).1=t:=by
  rw[D.more]
  exact out_sum (whole_ok D.whole2).2.2.2.2.2.2.1 (by have:=(whole_ok D.whole2).2.2.2.2.1;omega)
theorem Deals.fin_few (hf:fewP l):fewP (finOf l d t):=by
  refine⟨by rw[D.fin_len];exact hf.1,fun x hx=>?_⟩
  obtain⟨i,hi,rfl⟩:=List.mem_iff_getElem.1 hx
  have hi2:i < l.length:=by rw[D.fin_len] at hi;exact hi
  rw[D.fin_at hi2]
  exact hf.2 l[i] (List.getElem_mem hi2)
end
theorem taxE_lines: ∀ {B:List LnT} {M:List Int},B.length=M.length→(∀ x ∈ B,∃ c d,lineR x.f0 x.f1 c d x.f4=0)→taxE B M=if linesB (List.zipWith taxX B M)=true then 0 else 8
  | [],[],_,_=>by simp[taxE,linesB]
  |x::B,m::M,h,hg=>by
    obtain⟨c,d,hx⟩:=hg x List.mem_cons_self
    have ih:=taxE_lines (B:=B) (M:=M) (by simpa using h) (fun y hy=>hg y (List.mem_cons_of_mem _ hy))
    have e:LR (taxX x m)=if mayB x.f1 x.f2 m=true then 0 else 8:=lineR_amounts hx
    simp only[taxE,List.zipWith_cons_cons,linesB,List.all_cons]
    by_cases g:mayB x.f1 x.f2 m=true
    · rw[if_pos g] at e
      rw[if_pos e,ih]
      have e2:decide (lineR (taxX x m).f0 (taxX x m).f1 (taxX x m).f2 (taxX x m).f3 (taxX x m).f4=0)=true:=decide_eq_true e
      simp only[e2,Bool.true_and]
      rfl
    rw[if_neg g] at e
    rw[if_neg (by omega),e]
    have e2:decide (lineR (taxX x m).f0 (taxX x m).f1 (taxX x m).f2 (taxX x m).f3 (taxX x m).f4=0)=false:=decide_eq_false (by show ¬ LR (taxX x m)=0;omega)
    simp only[e2,Bool.false_and]
    rfl
theorem deal_l1 {n:Int} (hn:n≤20): ∀ (B A:List LnT) (M Ml:List Int),((A++B).length:Int)=n→Ml.length=A.length→M.length=B.length→(∀ x ∈ B,fewX x.f4)→Ev (fun k=>bA.l1 k (A++B) (Ml++M) n (A.length:Int)) (if taxE B M=0 then(A++List.zipWith taxX B M,0)else([],taxE B M))
  | [],A,M,Ml,h,hl,hm,_=>by
    simp only[List.length_append,List.length_nil] at h
    refine Ev.step (fun k=>by simp only[bA.l1];rfl) (Ev.neg (by omega) (Ev.ok ?_))
    simp[taxE]
  |x::B,A,[],Ml,h,hl,hm,_=>by simp at hm
  |x::B,A,m::M,Ml,h,hl,hm,hx=>by
    have h2:=h
    simp only[List.length_append,List.length_cons] at h
    have hxx:=hx x List.mem_cons_self
    refine Ev.step (fun k=>by simp only[bA.l1];rfl) (Ev.pos (by omega) (Ev.pos (by omega) (Ev.pos (by simp;omega) (Ev.pos (by simp only[List.length_append,List.length_cons];omega) ?_))))
    simp only[rdA rfl,setA rfl,rdI hl]
    refine Q.Ev.bindc rfl ?_
    simp only[rdA rfl,setA rfl]
    rw[wrap_eq (by omega) (by omega)]
    refine Ev.bind (line_check_f hxx.1 hxx.2) ?_
    have e:lineR x.f0 x.f1 x.f2 m x.f4=LR (taxX x m):=rfl
    rw[e]
    refine Q.Ev.ite (fun g => ?_) (fun g => Ev.ok (by have e2 : taxE (x :: B) (m :: M) = LR (taxX x m) := by simp only [taxE, if_neg g]
                                                      simp only[e2];rw[if_neg g]))
    have e2:taxE (x::B) (m::M)=taxE B M:=by simp only[taxE,if_pos g]
    simp only[e2]
    have:=deal_l1 hn B (A++ [taxX x m]) M (Ml++ [m]) (by simp only[List.length_append,List.length_cons,List.length_nil] at h2⊢;omega) (by simp[hl]) (by simpa using hm) (fun y hy=>hx y (List.mem_cons_of_mem _ hy))
    simp only[List.length_append,List.length_cons,List.length_nil,List.append_assoc,List.singleton_append,List.zipWith_cons_cons] at this⊢
    exact this
theorem deal_l0 {n t:Int} {R:List LnT × Int} {F:List LnT} (hn:n≤20) (hR:Ev (fun k=> (bE.f k F).bind fun t122=> (bM.f k t t122).bind fun bt125=>if bt125.2=0 then bA.l1 k F bt125.1 (F.length:Int) 0 else some (([] :List LnT),bt125.2)) R): ∀ (B A:List LnT) (Q Ql:List Int),((A++B).length:Int)=n→Ql.length=A.length→Q.length=B.length→(∀ x ∈ B,0≤x.f1∧x.f1≤1000000000000)→(∀ q ∈ Q,0≤q∧q≤1000000000000)→A++List.zipWith lessX B Q=F→Ev (fun k=>bA.l0 k t (A++B) (Ql++Q) n (A.length:Int)) R
  | [],A,Q,Ql,h,hl,hm,_,_,hF=>by
    simp only[List.length_append,List.length_nil] at h
    refine Ev.step (fun k=>by simp only[bA.l0];rfl) (Ev.neg (by omega) ?_)
    simp only[List.zipWith_nil_left,List.append_nil] at hF⊢
    rw[hF]
    exact hR
  |x::B,A,[],Ql,h,hl,hm,_,_,_=>by simp at hm
  |x::B,A,q::Q,Ql,h,hl,hm,hx,hq,hF=>by
    have h2:=h
    simp only[List.length_append,List.length_cons] at h
    have hxx:=hx x List.mem_cons_self
    have hqq:=hq q List.mem_cons_self
    refine Ev.step (fun k=>by simp only[bA.l0];rfl) (Ev.pos (by omega) (Ev.pos (by omega) (Ev.pos (by simp only[List.length_append,List.length_cons];omega) (Ev.pos (by simp;omega) ?_))))
    simp only[rdA rfl,setA rfl,rdI hl]
    rw[wrap_eq (x:=(A.length:Int)+1) (by omega) (by omega),wrap_eq (x:=x.f1 - q) (by omega) (by omega)]
    have:=deal_l0 hn hR B (A++ [lessX x q]) Q (Ql++ [q]) (by simp only[List.length_append,List.length_cons,List.length_nil] at h2⊢;omega) (by simp[hl]) (by simpa using hm) (fun y hy=>hx y (List.mem_cons_of_mem _ hy)) (fun y hy=>hq y (List.mem_cons_of_mem _ hy)) (by rw[←hF];simp)
    simp only[List.length_append,List.length_cons,List.length_nil,List.append_assoc,List.singleton_append] at this⊢
    exact this
theorem Deals.less_all {l:List LnT} {d t:Int} (D:Deals l d t): ∀ q ∈ (outS d (grossL l)).1,0≤q∧q≤1000000000000:=fun q hq=>by
  obtain⟨i,hi,rfl⟩:=List.mem_iff_getElem.1 hq
  have hi2:i < l.length:=by rw[D.less_len] at hi;exact hi
  have h1:=D.less_at hi2
  have h2:=D.pos _ (List.getElem_mem hi2)
  have e:(outS d (grossL l)).1.getD i 0=(outS d (grossL l)).1[i] :=by simp[List.getD_eq_getElem?_getD,hi]
  rw[e] at h1
  omega
theorem Deals.fin_tax {l:List LnT} {d t:Int} (D:Deals l d t):taxE (netsOf l d) (outS t (netL (netsOf l d))).1=if linesB (finOf l d t)=true then 0 else 8:=by
  refine taxE_lines (by rw[D.nets_len,D.more_len]) (fun x hx=>?_)
  obtain⟨i,hi,rfl⟩:=List.mem_iff_getElem.1 hx
  have hi2:i < l.length:=by rw[D.nets_len] at hi;exact hi
  rw[D.nets_at hi2]
  exact⟨0,0,D.good _ (List.getElem_mem hi2)⟩
theorem Deals.nets_few {l:List LnT} {d t:Int} (D:Deals l d t) (hf:fewP l): ∀ x ∈ netsOf l d,fewX x.f4:=fun x hx=>by
  obtain⟨i,hi,rfl⟩:=List.mem_iff_getElem.1 hx
  have hi2:i < l.length:=by rw[D.nets_len] at hi;exact hi
  rw[D.nets_at hi2]
  exact hf.2 l[i] (List.getElem_mem hi2)
theorem Deals.goes {l:List LnT} {d t:Int} (D:Deals l d t) (hf:fewP l):Ev (fun k=> (aU.f k (l.map zeroX)).bind fun t112=> (bM.f k d t112).bind fun bt115=>if bt115.2=0 then bA.l0 k t (l.map zeroX) bt115.1 ((l.map zeroX).length:Int) 0 else Option.some (([] :List LnT),bt115.2)) (if linesB (finOf l d t)=true then(finOf l d t,0)else([],8)):=by
  have hl:=hf.1
  refine Ev.bind (gross_f (by simpa using hl)) ?_
  rw[gross_zero]
  refine Ev.bind (out_f (by rw[gross_len];omega)) (Ev.pos (by rw[D.less]) ?_)
  have hx: ∀ x ∈ l.map zeroX,0≤x.f1∧x.f1≤1000000000000:=fun x hx=>by
    obtain⟨y,hy,rfl⟩:=List.mem_map.1 hx
    exact D.pos y hy
  refine deal_l0 (n:=((l.map zeroX).length:Int)) (F:=netsOf l d) (by simp;omega) ?_ (l.map zeroX) [] (outS d (grossL l)).1 [] (by simp) rfl (by rw[D.less_len];simp) hx D.less_all (by simp[netsOf])
  refine Ev.bind (net_f (by rw[D.nets_len];exact hl)) (Ev.bind (out_f (by rw[net_len,D.nets_len];omega)) (Ev.pos (by rw[D.more]) ?_))
  have:=deal_l1 (n:=((netsOf l d).length:Int)) (by rw[D.nets_len];omega) (netsOf l d) [] (outS t (netL (netsOf l d))).1 [] (by simp) rfl (by rw[D.more_len,D.nets_len]) (D.nets_few hf)
  simp only[List.nil_append,List.length_nil,Int.natCast_zero] at this
  refine Ev.eq this ?_
  rw[D.fin_tax]
  by_cases g:linesB (finOf l d t)=true
  · rw[if_pos g,if_pos rfl,if_pos g];rfl
  rw[if_neg g,if_neg (by decide),if_neg g]
theorem line_deal_f {l:List LnT} (hf:fewP l) (d t:Int):Ev (fun k=>bA.f k l d t) (dealS l d t):=by
  have hl:=hf.1
  unfold bA.f dealS
  refine Ev.bind (bare_f hf) (Q.Ev.ite (fun e=>?_) (fun e=>Ev.ok (by rw[if_neg e])))
  obtain⟨h1,h2,h3,h4⟩:=bareS_ok e
  rw[if_pos e,h4]
  have hg:=bareE_good h3
  have hp: ∀ y ∈ grossL l,0≤y:=sumI_gross_nonneg fun x hx=> (lineR_ok (hg x hx)).2.2.1
  dsimp only
  refine Ev.bind (gross_f (by simpa using hl)) ?_
  rw[gross_zero]
  refine Ev.bind (cents_Add_f (by rw[gross_len];omega)) ?_
  rw[sumS_nonneg (by omega) (by omega) hp,show(0:Int)+sumI (grossL l)=sumI (grossL l) by omega]
  by_cases c1:1000000000000 < sumI (grossL l)
  · rw[if_pos c1,if_pos c1];exact Ev.neg (by decide) (Ev.const rfl)
  rw[if_neg c1,if_neg c1]
  refine Ev.pos rfl ?_
  have j0: ∀ b:Bool,(b=true↔(d < 0∨1000000000000 < d∨t < 0∨1000000000000 < t))→Ev (fun k=>bA.j0 k d t (l.map zeroX) (sumI (grossL l)) b) (if d < 0∨1000000000000 < d∨t < 0∨1000000000000 < t then([],8)else if sumI (grossL l) < d then([],34)else if linesB (finOf l d t)=true then(finOf l d t,0)else([],8)):=by
    intro b hb
    refine Ev.step (fun k=>by simp only[bA.j0];rfl) (Q.Ev.ite (fun g=>Ev.ok (by rw[if_pos (hb.1 g)])) (fun g=>?_))
    have hn: ¬ (d < 0∨1000000000000 < d∨t < 0∨1000000000000 < t):=fun q=>g (hb.2 q)
    rw[if_neg hn]
    refine Q.Ev.ite (fun c2=>Ev.ok (by rw[if_pos (by omega)])) (fun c2=>?_)
    rw[if_neg (by omega)]
    exact(deals_of e c1 hn (by omega)).goes hf
  refine Q.Ev.bindc (paid_f3 d) (Q.Ev.ite (fun g=>?_) (fun g=>j0 true ?_))
  · rw[decide_eq_true_eq] at g
    refine Q.Ev.bindc (paid_f3 t) (j0 _ ?_)
    simp;omega
  rw[decide_eq_true_eq] at g
  simp;omega
end Go.Proofs.Ytefhljhpcpajgaa.Q
namespace Go.Proofs.Ytefhljhpcpajgaa.Q
open Go.RowKit Ytefhljhpcpajgaa.F YtefhljhpcpajgaaX YtefhljhpcpajgaaW.PrintWords YtefhljhpcpajgaaW.PrintLast YtefhljhpcpajgaaW.PrintMore
def taxL (l:List LnT):List Int:=l.map fun x=>x.f3
theorem sumLS_ok : ∀ (L : List LnT) (a b c : Int), 0 ≤ a → 0 ≤ b → 0 ≤ c → (∀ x ∈ L, LR x = 0) → a + sumI (grossL L) ≤ 1000000000000 → b + sumI (netL L) ≤ 1000000000000 → c + sumI (taxL L) ≤ 1000000000000 →
    sumLS a b c L=(a+sumI (grossL L),b+sumI (netL L),c+sumI (taxL L),0)
  | [],a,b,c,_,_,_,_,_,_,_=>by
    simp[sumLS,grossL,netL,taxL,sumI]
  |x::L,a,b,c,ha,hb,hc,h,h1,h2,h3=>by
    have hx:=lineR_ok (h x List.mem_cons_self)
    have hp: ∀ y ∈ L,0≤y.f1∧0≤y.f2∧0≤y.f3:=fun y hy=>by
      have:=lineR_ok (h y (List.mem_cons_of_mem _ hy))
      exact⟨this.2.2.1,this.2.2.2.2.1,this.2.2.2.2.2.2.1⟩
    have n1:0≤sumI (grossL L):=sumI_nonneg fun z hz=>by
      obtain⟨y,hy,rfl⟩:=List.mem_map.1 hz
      exact(hp y hy).1
    have n2:0≤sumI (netL L):=sumI_nonneg fun z hz=>by
      obtain⟨y,hy,rfl⟩:=List.mem_map.1 hz
      exact(hp y hy).2.1
    have n3:0≤sumI (taxL L):=sumI_nonneg fun z hz=>by
      obtain⟨y,hy,rfl⟩:=List.mem_map.1 hz
      exact(hp y hy).2.2
    have e1:sumI (grossL (x::L))=x.f1+sumI (grossL L):=rfl
    have e2:sumI (netL (x::L))=x.f2+sumI (netL L):=rfl
    have e3:sumI (taxL (x::L))=x.f3+sumI (taxL L):=rfl
    rw[e1] at h1⊢
    rw[e2] at h2⊢
    rw[e3] at h3⊢
    unfold sumLS
    rw[if_pos (h x List.mem_cons_self),if_neg (show ¬ (1000000000000 < a+x.f1∨1000000000000 < b+x.f2∨1000000000000 < c+x.f3) by omega),
      sumLS_ok L (a+x.f1) (b+x.f2) (c+x.f3) (by omega) (by omega) (by omega) (fun y hy=>h y (List.mem_cons_of_mem _ hy)) (by omega) (by omega) (by omega)]
    rw[show a+x.f1+sumI (grossL L)=a+(x.f1+sumI (grossL L)) by omega,show b+x.f2+sumI (netL L)=b+(x.f2+sumI (netL L)) by omega,show c+x.f3+sumI (taxL L)=c+(x.f3+sumI (taxL L)) by omega]
section
variable {l:List LnT} {d t:Int} (D:Deals l d t)
include D
theorem gross_fin:grossL (finOf l d t)=grossL l:=by
  refine List.ext_getElem (by simp[grossL,D.fin_len]) (fun i h1 h2=>?_)
  have hi:i < l.length:=by simpa [grossL] using h2
  rw[show(grossL (finOf l d t))[i] =((finOf l d t)[i]'(by rw[D.fin_len];exact hi)).f1 from List.getElem_map _,D.fin_at hi]
  simp[grossL]
theorem net_fin:netL (finOf l d t)=netL (netsOf l d):=by
  refine List.ext_getElem (by simp[netL,D.fin_len,D.nets_len]) (fun i h1 h2=>?_)
  have hi:i < l.length:=by simpa [netL,D.nets_len] using h2
  rw[show(netL (finOf l d t))[i] =((finOf l d t)[i]'(by rw[D.fin_len];exact hi)).f2 from List.getElem_map _,D.fin_at hi,
    show(netL (netsOf l d))[i] =((netsOf l d)[i]'(by rw[D.nets_len];exact hi)).f2 from List.getElem_map _,D.nets_at hi]
theorem tax_fin:taxL (finOf l d t)=(outS t (netL (netsOf l d))).1:=by
  refine List.ext_getElem (by simp[taxL,D.fin_len,D.more_len]) (fun i h1 h2=>?_)
  have hi:i < l.length:=by simpa [D.more_len] using h2
  rw[show(taxL (finOf l d t))[i] =((finOf l d t)[i]'(by rw[D.fin_len];exact hi)).f3 from List.getElem_map _,D.fin_at hi]
  simp[List.getD_eq_getElem?_getD,h2]
theorem sums_fin (g:linesB (finOf l d t)=true):sumLS 0 0 0 (finOf l d t)=(sumI (grossL l),sumI (grossL l) - d,t,0):=by
  have s1:=D.sum
  have s2:=D.net_sum
  have s3:=D.more_sum
  have d0:=D.d0
  have t1:=D.t1
  rw[sumLS_ok (finOf l d t) 0 0 0 (by omega) (by omega) (by omega) (fun x hx=>of_decide_eq_true (List.all_eq_true.1 g x hx)) (by rw[gross_fin D];omega) (by rw[net_fin D];omega) (by rw[tax_fin D];omega),gross_fin D,net_fin D,tax_fin D,s2,s3]
  simp
end
theorem dealS_cases (l:List LnT) (d t:Int):(Deals l d t∧linesB (finOf l d t)=true∧dealS l d t=(finOf l d t,0))∨((dealS l d t).2≠0∧(dealS l d t).1=[]):=by
  unfold dealS
  by_cases e:(bareS l).2=0
  · rw[if_pos e]
    by_cases c1:1000000000000 < sumI (grossL l)
    · rw[if_pos c1];exact .inr ⟨by decide,rfl⟩
    rw[if_neg c1]
    by_cases c2:d < 0∨1000000000000 < d∨t < 0∨1000000000000 < t
    · rw[if_pos c2];exact .inr ⟨by decide,rfl⟩
    rw[if_neg c2]
    by_cases c3:sumI (grossL l) < d
    · rw[if_pos c3];exact .inr ⟨by decide,rfl⟩
    rw[if_neg c3]
    by_cases c4:linesB (finOf l d t)=true
    · rw[if_pos c4];exact .inl ⟨deals_of e c1 c2 c3,c4,rfl⟩
    rw[if_neg c4];exact .inr ⟨by decide,rfl⟩
  rw[if_neg e];exact .inr ⟨e,rfl⟩
theorem totL_ok: ∀ (L:List LnT) (n:Int),(∀ x ∈ L,0≤x.f2∧0≤x.f3)→n+sumI (netL L)+sumI (taxL L)≤1000000000000→totL n L=some (n+sumI (netL L)+sumI (taxL L))
  | [],n,_,_=>by simp[totL,netL,taxL,sumI]
  |x::L,n,h,h1=>by
    have h0:=h x List.mem_cons_self
    have n2:0≤sumI (netL L):=sumI_nonneg fun z hz=>by
      obtain⟨y,hy,rfl⟩:=List.mem_map.1 hz
      exact(h y (List.mem_cons_of_mem _ hy)).1
    have n3:0≤sumI (taxL L):=sumI_nonneg fun z hz=>by
      obtain⟨y,hy,rfl⟩:=List.mem_map.1 hz
      exact(h y (List.mem_cons_of_mem _ hy)).2
    have e2:sumI (netL (x::L))=x.f2+sumI (netL L):=rfl
    have e3:sumI (taxL (x::L))=x.f3+sumI (taxL L):=rfl
    rw[e2,e3] at h1⊢
    unfold totL
    rw[if_neg (show ¬ n+x.f2+x.f3 > 1000000000000 by omega),totL_ok L (n+x.f2+x.f3) (fun y hy=>h y (List.mem_cons_of_mem _ hy)) (by omega)]
    rw[show n+x.f2+x.f3+sumI (netL L)+sumI (taxL L)=n+(x.f2+sumI (netL L))+(x.f3+sumI (taxL L)) by omega]
theorem time_o (b:Int):cQ.f b=some (decide (0≤b∧b≤1000000)):=by
  unfold cQ.f cY.f
  by_cases h:0≤b
  · rw[if_pos (by omega)];simp[h]
  rw[if_neg (by omega)];simp[h]
end Go.Proofs.Ytefhljhpcpajgaa.Q
namespace Go.Proofs.Ytefhljhpcpajgaa.Q
open Go.RowKit Ytefhljhpcpajgaa.F YtefhljhpcpajgaaX YtefhljhpcpajgaaW.PrintWords YtefhljhpcpajgaaW.PrintLast YtefhljhpcpajgaaW.PrintMore
theorem rdeal_l2: ∀ (B A:List LnT) (M Ml:List Int),(A++B).length≤20→Ml.length=A.length→M.length=B.length→(∀ x ∈ B,fewX x.f4∧-9223372036854775808≤x.f2)→Ev (fun k=>aA.l2 k (A++B) (Ml++M) (A.length:Int)) (if taxE B M=0 then(A++List.zipWith taxX B M,0)else([],8))
  | [],A,M,Ml,h,hl,hm,_=>by
    refine Ev.step (fun k=>by simp only[aA.l2];rfl) (Ev.neg (by simp only[List.append_nil];omega) (Ev.ok ?_))
    simp[taxE]
  |x::B,A,[],Ml,h,hl,hm,_=>by simp at hm
  |x::B,A,m::M,Ml,h,hl,hm,hx=>by
    have h2:=h
    simp only[List.length_append,List.length_cons] at h
    obtain⟨hxx,hx2⟩:=hx x List.mem_cons_self
    refine Ev.step (fun k=>by simp only[aA.l2];rfl) (Ev.pos (by simp only[List.length_append,List.length_cons];omega) (Ev.pos (by omega) (Ev.pos (by simp only[List.length_append,List.length_cons];omega) ?_)))
    simp only[rdA rfl,setA rfl,rdI hl]
    refine Q.Ev.bindc rfl ?_
    simp only[rdA rfl,setA rfl]
    rw[wrap_eq (by omega) (by omega)]
    refine Ev.bind (ref_line_f hx2 hxx.1 hxx.2) ?_
    have e:lineR x.f0 x.f1 x.f2 m x.f4=LR (taxX x m):=rfl
    rw[e]
    have et:taxE (x::B) (m::M)=if LR (taxX x m)=0 then taxE B M else LR (taxX x m):=rfl
    refine Q.Ev.ite (fun g=>?_) (fun g=>Ev.ok (by rw[et,if_neg g,if_neg g]))
    rw[et,if_pos g]
    have:=rdeal_l2 B (A++ [taxX x m]) M (Ml++ [m]) (by simp only[List.length_append,List.length_cons,List.length_nil] at h2⊢;omega) (by simp[hl]) (by simpa using hm) (fun y hy=>hx y (List.mem_cons_of_mem _ hy))
    simp only[List.length_append,List.length_cons,List.length_nil,List.append_assoc,List.singleton_append,List.zipWith_cons_cons] at this⊢
    exact this
theorem rdeal_l1 {t:Int} {R:List LnT × Int} {F:List LnT} (hR:Ev (fun k=> (aC.f k t (netL F)).bind fun bt123=>aA.l2 k F bt123.1 0) R): ∀ (B A:List LnT) (Q Ql:List Int),(A++B).length≤20→Ql.length=A.length→Q.length=B.length→(∀ x ∈ B,0≤x.f1∧x.f1≤1000000000000)→(∀ q ∈ Q,0≤q∧q≤1000000000000)→A++List.zipWith lessX B Q=F→Ev (fun k=>aA.l1 k t (A++B) (netL A) (Ql++Q) (A.length:Int)) R
  | [],A,Q,Ql,h,hl,hm,_,_,hF=>by
    refine Ev.step (fun k=>by simp only[aA.l1];rfl) (Ev.neg (by simp only[List.append_nil];omega) ?_)
    simp only[List.zipWith_nil_left,List.append_nil] at hF⊢
    rw[hF]
    exact hR
  |x::B,A,[],Ql,h,hl,hm,_,_,_=>by simp at hm
  |x::B,A,q::Q,Ql,h,hl,hm,hx,hq,hF=>by
    have h2:=h
    simp only[List.length_append,List.length_cons] at h
    have hxx:=hx x List.mem_cons_self
    have hqq:=hq q List.mem_cons_self
    refine Ev.step (fun k=>by simp only[aA.l1];rfl) (Ev.pos (by simp only[List.length_append,List.length_cons];omega) (Ev.pos (by omega) (Ev.pos (by simp only[List.length_append,List.length_cons];omega) (Ev.pos (by rw[net_len];omega) ?_))))
    simp only[rdA rfl,setA rfl,rdI hl]
    rw[wrap_eq (x:=(A.length:Int)+1) (by omega) (by omega),wrap_eq (x:=x.f1 - q) (by omega) (by omega)]
    have:=rdeal_l1 hR B (A++ [lessX x q]) Q (Ql++ [q]) (by simp only[List.length_append,List.length_cons,List.length_nil] at h2⊢;omega) (by simp[hl]) (by simpa using hm) (fun y hy=>hx y (List.mem_cons_of_mem _ hy)) (fun y hy=>hq y (List.mem_cons_of_mem _ hy)) (by rw[←hF];simp)
    simp only[List.length_append,List.length_cons,List.length_nil,List.append_assoc,List.singleton_append,netL,List.map_append,List.map_cons,List.map_nil] at this⊢
    exact this
theorem rdeal_l0 {d t : Int} {R : List LnT × Int} {l : List LnT} (hl : l.length ≤ 8) (hR : bareE l = 0 → Ev (fun k => if sumI (grossL l) > 1000000000000 then aA.j2 k d t (l.map zeroX) (grossL l) ([] : List Int) (sumI (grossL l)) true else (if d < 0 then aA.j2 k d t (l.map zeroX) (grossL l) ([] : List Int) (sumI (grossL l)) true else (if d > 1000000000000 then aA.j2 k d t (l.map zeroX) (grossL l) ([] : List Int) (sumI (grossL l)) true else (if t < 0 then aA.j2 k d t (l.map zeroX) (grossL l) ([] : List Int) (sumI (grossL l)) true else aA.j2 k d t (l.map zeroX) (grossL l) ([] : List Int) (sumI (grossL l)) (decide (t > 1000000000000)))))) R) (hE : bareE l ≠ 0 → R = ([], bareE l)) (hf : fewP l) :
    ∀ (B A:List LnT),A++B=l→bareE B=bareE l→(∀ x ∈ A,0≤x.f1∧x.f1≤1000000000000)→0≤sumI (grossL A)∧sumI (grossL A)≤(A.length:Int) * 1000000000000→Ev (fun k=>aA.l0 k l d t (A.map zeroX) (grossL A) (sumI (grossL A)) (A.length:Int)) R
  | [],A,h,hb,hA,hs=>by
    rw[List.append_nil] at h
    subst h
    refine Ev.step (fun k=>by simp only[aA.l0];rfl) (Ev.neg (by omega) ?_)
    exact hR (by rw[←hb];rfl)
  |x::B,A,h,hb,hA,hs=>by
    have hl2:A.length+(B.length+1)=l.length:=by rw[←h];simp
    have hxm:x ∈ l:=by rw[←h];simp
    have hxx:=hf.2 x hxm
    refine Ev.step (fun k=>by simp only[aA.l0];rfl) (Ev.pos (by omega) (Ev.pos (by omega) ?_))
    have er:rd_T71 l (A.length:Int)=x:=by rw[←h];exact rdA rfl
    rw[er]
    refine Ev.bind (ref_line_f (by omega) hxx.1 hxx.2) ?_
    have e:lineR x.f0 x.f1 0 0 x.f4=LR (zeroX x):=rfl
    rw[e]
    refine Q.Ev.ite (fun g=>?_) (fun g=>Ev.ok ?_)
    · have ho:=lineR_ok (show lineR x.f0 x.f1 0 0 x.f4=0 from g)
      have e2:sumI (grossL (A++ [x]))=sumI (grossL A)+x.f1:=by unfold grossL;rw[List.map_append,sumI_append];simp[sumI]
      have e3:((A++ [x]).length:Int)=(A.length:Int)+1:=by simp
      refine Ev.pos (by simp;omega) (Ev.pos (by rw[gross_len];omega) ?_)
      rw[wrap_eq (x:=(A.length:Int)+1) (by omega) (by omega),wrap_eq (x:=sumI (grossL A)+x.f1) (by omega) (by omega)]
      have hb2:bareE B=bareE l:=by rw[←hb];simp only[bareE];rw[if_pos g]
      have:=rdeal_l0 hl hR hE hf B (A++ [x]) (by rw[←h];simp) hb2 (fun y hy=>by
        rcases List.mem_append.1 hy with hy|hy
        · exact hA y hy
        rw[List.mem_singleton.1 hy];omega) (by rw[e2,e3];omega)
      rw[e2,e3] at this
      simp only[List.map_append,List.map_cons,List.map_nil,grossL] at this⊢
      exact this
    have hb2:bareE l=LR (zeroX x):=by rw[←hb];simp only[bareE];rw[if_neg g]
    rw[hE (by rw[hb2];exact g),hb2]
theorem rdeal_f {l:List LnT} (hf:fewP l) (d t:Int):Ev (fun k=>aA.f k l d t) (dealS l d t):=by
  have hl:=hf.1
  unfold aA.f dealS
  have j0: ∀ b:Bool,(b=true↔(l.length < 1∨8 < l.length))→Ev (fun k=>aA.j0 k l d t b) (if(bareS l).2=0 then(if 1000000000000 < sumI (grossL l)then([],8)else if d < 0∨1000000000000 < d∨t < 0∨1000000000000 < t then([],8)else if sumI (grossL l) < d then([],34)else if linesB (finOf l d t)=true then(finOf l d t,0)else([],8))else([],(bareS l).2)):=by
    intro b hb
    refine Ev.step (fun k=>by simp only[aA.j0];rfl) (Q.Ev.ite (fun g=>Ev.ok ?_) (fun g=>?_))
    · have:bareS l=([],2):=by unfold bareS;rw[if_pos (hb.1 g)]
      rw[this,if_neg (by decide)]
    have hn: ¬ (l.length < 1∨8 < l.length):=fun q=>g (hb.2 q)
    have eb:bareS l=if bareE l=0 then(l.map zeroX,0)else([],bareE l):=by unfold bareS;rw[if_neg hn]
    refine rdeal_l0 (by omega) (fun h0=>?_) (fun h0=>?_) hf l [] (by simp) rfl (by simp) (by simp[grossL,sumI])
    · have e:(bareS l).2=0:=by rw[eb,if_pos h0]
      rw[if_pos e]
      have j2: ∀ b:Bool,(b=true↔(1000000000000 < sumI (grossL l)∨(d < 0∨1000000000000 < d∨t < 0∨1000000000000 < t)))→Ev (fun k=>aA.j2 k d t (l.map zeroX) (grossL l) ([] :List Int) (sumI (grossL l)) b) (if 1000000000000 < sumI (grossL l)then([],8)else if d < 0∨1000000000000 < d∨t < 0∨1000000000000 < t then([],8)else if sumI (grossL l) < d then([],34)else if linesB (finOf l d t)=true then(finOf l d t,0)else([],8)):=by
        intro b hb
        refine Ev.step (fun k=>by simp only[aA.j2];rfl) (Q.Ev.ite (fun g=>Ev.ok ?_) (fun g=>?_))
        · by_cases c:1000000000000 < sumI (grossL l)
          · rw[if_pos c]
          rw[if_neg c,if_pos ((hb.1 g).resolve_left c)]
        have hn2: ¬ (1000000000000 < sumI (grossL l)∨(d < 0∨1000000000000 < d∨t < 0∨1000000000000 < t)):=fun q=>g (hb.2 q)
        have c1: ¬ 1000000000000 < sumI (grossL l):=fun q=>hn2 (.inl q)
        have c2: ¬ (d < 0∨1000000000000 < d∨t < 0∨1000000000000 < t):=fun q=>hn2 (.inr q)
        rw[if_neg c1,if_neg c2]
        refine Q.Ev.ite (fun c3=>Ev.ok (by rw[if_pos (by omega)])) (fun c3=>?_)
        rw[if_neg (by omega)]
        have D:=deals_of e c1 c2 (by omega)
        refine Ev.bind (rout_f (by rw[gross_len];omega)) ?_
        have hx: ∀ x ∈ l.map zeroX,0≤x.f1∧x.f1≤1000000000000:=fun x hx=>by
          obtain⟨y,hy,rfl⟩:=List.mem_map.1 hx
          exact D.pos y hy
        have:=rdeal_l1 (t:=t) (F:=netsOf l d) (R:=if linesB (finOf l d t)=true then(finOf l d t,0)else([],8)) ?_ (l.map zeroX) [] (outS d (grossL l)).1 [] (by simp;omega) rfl (by rw[D.less_len];simp) hx D.less_all (by simp[netsOf])
        · simpa [netL] using this
        refine Ev.bind (rout_f (by rw[net_len,D.nets_len];omega)) ?_
        have:=rdeal_l2 (netsOf l d) [] (outS t (netL (netsOf l d))).1 [] (by simp;rw[D.nets_len];omega) rfl (by rw[D.more_len,D.nets_len]) (fun x hx=> ⟨D.nets_few hf x hx,by have:=D.net_pos x.f2 (List.mem_map.2 ⟨x,hx,rfl⟩);omega⟩)
        simp only[List.nil_append,List.length_nil,Int.natCast_zero] at this
        refine Ev.eq this ?_
        rw[D.fin_tax]
        by_cases g:linesB (finOf l d t)=true
        · rw[if_pos g,if_pos rfl,if_pos g];rfl
        rw[if_neg g,if_neg (by decide),if_neg g]
      refine Q.Ev.ite (fun c=>j2 true (by simp;omega)) (fun c=>Q.Ev.ite (fun c=>j2 true (by simp;omega)) (fun c=>Q.Ev.ite (fun c=>j2 true (by simp;omega)) (fun c=>Q.Ev.ite (fun c=>j2 true (by simp;omega)) (fun c=>j2 _ (by simp;omega)))))
    rw[eb,if_neg h0,if_neg h0]
  exact Q.Ev.ite (fun g=>j0 true ⟨fun _=>by omega,fun _=>rfl⟩) (fun g=>j0 _ (by rw[decide_eq_true_iff];omega))
end Go.Proofs.Ytefhljhpcpajgaa.Q
namespace Go.Proofs.Ytefhljhpcpajgaa.Q
open Go.RowKit Ytefhljhpcpajgaa.F YtefhljhpcpajgaaW.PrintWords YtefhljhpcpajgaaW.PrintLast YtefhljhpcpajgaaW.PrintMore
theorem same_texts_l0 {a b : List ByteArray} (hl : a.length < 9223372036854775807) (hab : a.length = b.length) (d : Nat) : ∀ i : Nat, a.length - i = d → i ≤ a.length →
    Ev (fun k=>aV.l0 k a b (i:Int)) (decide (a.drop i=b.drop i)):=by
  induction d with
  |zero=>
    intro i hd hi
    refine Ev.step (fun k=>by simp only[aV.l0];rfl) ?_
    refine Ev.neg (by omega) (Ev.ok ?_)
    rw[List.drop_eq_nil_of_le (by omega),List.drop_eq_nil_of_le (by omega)];simp
  |succ d ih=>
    intro i hd hi
    have h:i < a.length:=by omega
    have h':i < b.length:=by omega
    refine Ev.step (fun k=>by simp only[aV.l0];rfl) ?_
    refine Ev.pos (by omega) (Ev.pos (by omega) (Ev.pos (by omega) ?_))
    rw[rdOf_nat h,rdOf_nat h',drop_cons h,drop_cons h']
    refine Ev.ite (fun he=>?_) (fun he=>Ev.ok ?_)
    · rw[wrap_eq (by omega) (by omega)]
      refine Ev.eq (ih (i+1) (by omega) (by omega)) ?_
      rw[bytes_ext.1 he]
      exact decide_eq_decide.2 ⟨fun e=>by rw[e],fun e=>by injection e⟩
    exact(decide_eq_false (fun e=>he (by injection e with e1;rw[e1]))).symm
theorem same_texts_f {a b:List ByteArray} (hl:a.length < 9223372036854775807):Ev (fun k=>aV.f k a b) (decide (a=b)):=by
  unfold aV.f
  refine Ev.ite (fun h=>?_) (fun h=>Ev.ok ?_)
  · exact same_texts_l0 hl (by omega) a.length 0 (by omega) (by omega)
  have: ¬ a=b:=fun e=>h (by rw[e])
  simp[this]
end Go.Proofs.Ytefhljhpcpajgaa.Q
namespace Go.Proofs.Ytefhljhpcpajgaa.Pure
open Go.RowKit Ytefhljhpcpajgaa.F YtefhljhpcpajgaaX Ytefhljhpcpajgaa.Q YtefhljhpcpajgaaW.PrintWords YtefhljhpcpajgaaW.PrintLast
theorem same_line_f {x:LnT} (h:x.f4.length < 9223372036854775807):Ev (fun k=>cA.f k x.f0 x.f1 x.f2 x.f3 x.f4 x.f0 x.f1 x.f2 x.f3 x.f4) true:=by
  unfold cA.f
  refine Q.Ev.pos rfl (Q.Ev.pos rfl (Q.Ev.pos rfl (Q.Ev.pos rfl (Ev.bind (same_texts_f h) (Q.Ev.ok ?_)))))
  exact decide_eq_true rfl
theorem same_lines_l0 {l:List LnT} (hf:fewP l) (m:Nat): ∀ i:Nat,l.length - i=m→i≤l.length→Ev (fun k=>aN.l0 k l l (i:Int)) true:=by
  have hl:=hf.1
  induction m with
  |zero=>
    intro i hd hi
    exact Ev.step (fun k=>by simp only[aN.l0];rfl) (Ev.neg (by omega) (Ev.ok rfl))
  |succ m ih=>
    intro i hd hi
    have h:i < l.length:=by omega
    have hx:=fewX_of hf (List.getElem_mem h)
    refine Ev.step (fun k=>by simp only[aN.l0];rfl) (Ev.pos (by omega) (Ev.pos (by omega) (Ev.pos (by omega) ?_)))
    rw[rdL h,wrap_eq (x:=(i:Int)+1) (by omega) (by omega)]
    exact Ev.bind (same_line_f (by have:=hx.1;omega)) (Q.Ev.pos rfl (ih (i+1) (by omega) (by omega)))
theorem same_lines_f {l:List LnT} (hf:fewP l):Ev (fun k=>aN.f k l l) true:=by
  unfold aN.f
  exact Q.Ev.pos rfl (same_lines_l0 hf l.length 0 (by omega) (by omega))
theorem cost_fin {l:List LnT} {d t:Int} (D:Deals l d t) (g:linesB (finOf l d t)=true) (hf:fewP l):Ev (fun k=>cM.f k (finOf l d t)) (if 1000000000000 < sumI (grossL l) - d+t then(0,8)else(sumI (grossL l) - d+t,0)):=by
  have d1:=D.d1
  have t0:=D.t0
  have hs:=sum_f (D.fin_few hf)
  rw[sums_fin D g] at hs
  unfold cM.f
  refine Ev.bind hs (Q.Ev.pos rfl (Ev.bind (cents_Add_f (by simp)) (Ev.ok ?_)))
  dsimp only
  rw[add_two (p:=sumI (grossL l) - d) (q:=t) (by omega) (by omega)]
def makeS (l:List LnT) (a b d t:Int):Int × Int × List LnT × Int:=
  if 1≤a∧a≤999999∧0≤b∧b≤1000000 then
    (if(dealS l d t).2=0 then(if dupB [] (serialsOf (finOf l d t))=true then(0,0,[],32)else if 1000000000000 < sumI (grossL l) - d+t then(0,0,[],8)else(a,b,finOf l d t,0))else(0,0,[],(dealS l d t).2))
  else(0,0,[],2)
theorem make_f {l:List LnT} (hf:fewP l) (a b d t:Int):Ev (fun k=>bS.f k a b l d t) (makeS l a b d t):=by
  have j0: ∀ u:Bool,(u=true↔ ¬ (1≤a∧a≤999999∧0≤b∧b≤1000000))→Ev (fun k=>bS.j0 k a b l d t u) (makeS l a b d t):=by
    intro u hu
    unfold makeS
    refine Ev.step (fun k=>by simp only[bS.j0];rfl) (Q.Ev.ite (fun c=>Ev.ok (if_neg (hu.1 c)).symm) (fun c=>?_))
    rw[if_pos (Classical.not_not.1 fun q=>c (hu.2 q))]
    rcases dealS_cases l d t with⟨D,g,e⟩|⟨e1,e2⟩
    · have hd:=line_deal_f hf d t
      rw[e] at hd
      rw[e,if_pos rfl]
      refine Ev.bind hd (Q.Ev.pos rfl (Q.Ev.bindc (order_twice_f (D.fin_few hf)) (Q.Ev.ite (fun c1=>Ev.ok (if_pos c1).symm) (fun c1=>?_))))
      rw[if_neg c1]
      refine Ev.bind (cost_fin D g hf) ?_
      by_cases c2:1000000000000 < sumI (grossL l) - d+t
      · rw[if_pos c2,if_pos c2]
        exact Q.Ev.neg (show ¬ (8:Int)=0 by decide) (Q.Ev.ok rfl)
      rw[if_neg c2,if_neg c2]
      exact Q.Ev.pos rfl (Q.Ev.ok rfl)
    rw[if_neg e1]
    exact Ev.bind (line_deal_f hf d t) (Q.Ev.neg e1 (Q.Ev.ok rfl))
  unfold bS.f
  refine Q.Ev.ite (fun c=>j0 true (by simp;omega)) (fun c=>Q.Ev.ite (fun c2=>j0 true (by simp;omega)) (fun c2=>Q.Ev.bindc (time_o b) (j0 _ ?_)))
  rw[Bool.not_eq_true',decide_eq_false_iff_not]
  omega
theorem totL_some: ∀ (L:List LnT) (n m:Int),n≤1000000000000→totL n L=some m→m=n+sumI (netL L)+sumI (taxL L)∧m≤1000000000000
  | [],n,m,hn,h=>by
    simp only[totL,Option.some.injEq] at h
    simp[netL,taxL,sumI]
    omega
  |x::L,n,m,hn,h=>by
    simp only[totL] at h
    by_cases c:n+x.f2+x.f3 > 1000000000000
    · rw[if_pos c] at h;cases h
    rw[if_neg c] at h
    have e2:sumI (netL (x::L))=x.f2+sumI (netL L):=rfl
    have e3:sumI (taxL (x::L))=x.f3+sumI (taxL L):=rfl
    have:=totL_some L (n+x.f2+x.f3) m (by omega) h
    rw[e2,e3]
    omega
theorem ord_of {l : List LnT} {a b d t : Int} (D : Deals l d t) (g : linesB (finOf l d t) = true) (hh : 1 ≤ a ∧ a ≤ 999999 ∧ 0 ≤ b ∧ b ≤ 1000000) (hu : ¬ dupB [] (serialsOf (finOf l d t)) = true) :
    ordR a b (finOf l d t)=if 1000000000000 < sumI (grossL l) - d+t then 40 else 0:=by
  have h:=lines_amounts g
  have h1:=D.some
  have h2:=D.few
  have en:sumI (netL (finOf l d t))=sumI (grossL l) - d:=by rw[net_fin D,D.net_sum]
  have et:sumI (taxL (finOf l d t))=t:=by rw[tax_fin D,D.more_sum]
  unfold ordR finB
  by_cases c:1000000000000 < sumI (grossL l) - d+t
  · rw[if_pos c,if_neg]
    rintro⟨_,_,q⟩
    rw[Bool.and_eq_true] at q
    obtain⟨m,hm⟩:=Option.isSome_iff_exists.1 q.1
    have:=totL_some _ _ _ (by omega) hm
    omega
  rw[if_neg c,if_pos]
  have e:=totL_ok (finOf l d t) 0 (fun x hx=> ⟨(h x hx).1,(h x hx).2.2.1⟩) (by omega)
  refine⟨⟨hh.1,hh.2.1,hh.2.2.1,hh.2.2.2,by rw[D.fin_len];omega,by rw[D.fin_len];omega⟩,g,?_⟩
  rw[e,Bool.eq_false_iff.2 hu]
  rfl
theorem rmake_f {l:List LnT} (hf:fewP l) (a b d t:Int):Ev (fun k=>bF.f k a b l d t) (makeS l a b d t):=by
  have j0: ∀ u:Bool,(u=true↔ ¬ (1≤a∧a≤999999∧0≤b∧b≤1000000))→Ev (fun k=>bF.j0 k a b l d t u) (makeS l a b d t):=by
    intro u hu
    unfold makeS
    refine Ev.step (fun k=>by simp only[bF.j0];rfl) (Q.Ev.ite (fun c=>Ev.ok (if_neg (hu.1 c)).symm) (fun c=>?_))
    have hh:=Classical.not_not.1 fun q=>c (hu.2 q)
    rw[if_pos hh]
    rcases dealS_cases l d t with⟨D,g,e⟩|⟨e1,e2⟩
    · have hd:=rdeal_f hf d t
      have hff:=D.fin_few hf
      rw[e] at hd
      rw[e,if_pos rfl]
      have ha:=all_l0' hff (finOf l d t).length 0 [] (by omega) (by omega) (by simp)
      rw[List.drop_zero,List.nil_append] at ha
      refine Ev.bind hd (Q.Ev.pos rfl (Ev.bind (g:=fun k=>aY.f k (finOf l d t)) (a:=serialsOf (finOf l d t)) (by unfold aY.f;exact ha) (Ev.bind (ref_twice_f (serials_len hff)) (Q.Ev.ite (fun c1=>Ev.ok (if_pos c1).symm) (fun c1=>?_)))))
      rw[if_neg c1]
      refine Ev.bind (ref_order_f (a:=a) (b:=b) hff fun x hx=>by have:=(lines_amounts g x hx).1;omega) ?_
      rw[ord_of D g hh c1]
      by_cases c2:1000000000000 < sumI (grossL l) - d+t
      · rw[if_pos c2,if_pos c2]
        exact Q.Ev.neg (show ¬ (40:Int)=0 by decide) (Q.Ev.ok rfl)
      rw[if_neg c2,if_neg c2]
      exact Q.Ev.pos rfl (Q.Ev.ok rfl)
    rw[if_neg e1]
    exact Ev.bind (rdeal_f hf d t) (Q.Ev.neg e1 (Q.Ev.ok rfl))
  unfold bF.f
  refine Q.Ev.ite (fun c=>j0 true (by simp;omega)) (fun c=>Q.Ev.ite (fun c2=>j0 true (by simp;omega)) (fun c2=>Q.Ev.ite (fun c3=>j0 true (by simp;omega)) (fun c3=>j0 _ (by simp;omega))))
theorem make_few {l:List LnT} (hf:fewP l) (a b d t:Int):fewP (makeS l a b d t).2.2.1:=by
  have nil:fewP [] :=⟨by simp,by simp⟩
  unfold makeS
  split
  · split
    · split
      · exact nil
      split
      · exact nil
      rename_i h _ _
      rcases dealS_cases l d t with⟨D,g,e⟩|⟨e1,e2⟩
      · exact D.fin_few hf
      exact(e1 h).elim
    exact nil
  exact nil
theorem OrderMakes:bZ.Pure:=by
  intro l d t a b hl hd ht ha hb
  refine Ev.rounds (r:=true) ?_
  have haw:cF.f=some true:=rfl
  unfold bZ.f
  refine Ev.bind (few_f _) (Q.Ev.ite (fun q=>?_) (fun _=>Q.Ev.bindc haw (Q.Ev.pos rfl (Q.Ev.const rfl))))
  have hf:=few_p q
  refine Ev.bind (make_f hf a b d t) (Ev.bind (rmake_f hf a b d t) (Ev.bind (a:=true) ?_ (Q.Ev.pos rfl (Q.Ev.pos rfl (Q.Ev.bindc haw (Q.Ev.pos rfl (Q.Ev.const rfl)))))))
  unfold cG.f
  exact Q.Ev.pos rfl (Q.Ev.pos rfl (Ev.bind (same_lines_f (make_few hf a b d t)) (Q.Ev.ok rfl)))
end Go.Proofs.Ytefhljhpcpajgaa.Pure
namespace Go.Proofs.YtefhljhpcpajgaaX
open Go.RowKit YtefhljhpcpajgaaW.PrintWords YtefhljhpcpajgaaW.PrintLast YtefhljhpcpajgaaW.PrintMore
def Opens {α:Type} (P:Program) (t:TypeId) (k:Kd α) (Ok:α→Prop):Prop:=
  ∀ {H:Type} {enc:TypeId × Value→H} {w:World} {base:Nat} {spare:Nat→Bool} {held:Bool} {fuel:Nat} {cs:List Value} {x:DataW H × List MemPlace},
    DataW.trod enc P w base spare held fuel t cs=some x→∃ a:α,k.K w a cs∧Ok a
theorem Opens.int {P:Program} {t:TypeId} {k:IntKind} (ht:P.underlying t=some (.int k)):Opens P t (Kd.int k) (fun a=> (Lit.int k a).wf=true):=by
  intro H enc w base spare held fuel cs x h
  obtain⟨n,rfl,_,hw⟩:=DataW.trod_int ht h
  exact⟨n,rfl,hw⟩
theorem Opens.bool {P:Program} {t:TypeId} (ht:P.underlying t=some .bool):Opens P t Kd.bool (fun _=>True):=by
  intro H enc w base spare held fuel cs x h
  obtain⟨n,rfl,_⟩:=DataW.trod_bool ht h
  exact⟨n,rfl,trivial⟩
theorem Opens.string {P:Program} {t:TypeId} (ht:P.underlying t=some .string):Opens P t Kd.string (fun a=>a.size≤maxLen):=by
  intro H enc w base spare held fuel cs x h
  obtain⟨s,rfl,_,hw⟩:=DataW.trod_string ht h
  exact⟨s,rfl,hw⟩
theorem list_of {α:Type} {p:Nat→α→Prop} : ∀ n,(∀ i,i < n→∃ a,p i a)→∃ xs:List α,xs.length=n∧∀ i a,xs[i]? =some a→p i a
  |0,_=> ⟨[],rfl,fun i a h=>by simp at h⟩
  |n+1,h=>by
    obtain⟨xs,hl,hx⟩:=list_of n (fun i hi=>h i (by omega))
    obtain⟨a,ha⟩:=h n (by omega)
    refine⟨xs++ [a],by simp[hl],fun i b hb=>?_⟩
    rcases Nat.lt_or_ge i xs.length with h1|h1
    · rw[List.getElem?_append_left h1] at hb
      exact hx i b hb
    rw[List.getElem?_append_right h1] at hb
    have h2:i - xs.length=0:=by
      have:=(List.getElem?_eq_some_iff.1 hb).1
      simp at this;omega
    rw[h2] at hb
    have:a=b:=by simpa using hb
    subst this
    have:i=n:=by omega
    rw[this];exact ha
theorem Opens.slice {α : Type} {P : Program} {t e : TypeId} {k : Kd α} {Ok : α → Prop} (ht : P.underlying t = some (.slice e)) (hc : P.cellsOf e = k.sz) (h : Opens P e k Ok) :
    Opens P t (Kd.slice e k) (fun xs=>xs.length≤maxLen∧∀ x ∈ xs,Ok x):=by
  intro H enc w base spare held fuel cs x hx
  rcases Go.Deep.open_slice ht hx with⟨rfl,rfl⟩|⟨a,len,cap,m,n,D,Pl,rfl,hb,hl,hm,hmm,rfl,hel⟩
  · exact⟨[],⟨none,0,rfl,by simp,rfl,by simp,fun h=>absurd h (by simp)⟩,by simp[maxLen],by simp⟩
  have hlm:len≤m:=by rw[hmm];split <;> omega
  obtain⟨xs,hlen,hxs⟩:=list_of (p:=fun i (a':α)=> ∃ cs',w.cells? base (a.add (i * P.cellsOf e)) (P.cellsOf e)=some cs'∧k.K w a' cs'∧Ok a') len (fun i hi=>by
    obtain⟨cs',h1,h2⟩:=hel i (by omega)
    obtain⟨a',h3,h4⟩:=h h2
    exact⟨a',cs',h1,h3,h4⟩)
  have hlm2:len≤maxLen:=by omega
  refine⟨xs,⟨some a,cap,by rw[hlen],by rw[hlen];exact hl,rfl,by rw[hlen];simpa [maxLen] using hlm2,fun _=> ⟨a,rfl,fun j p hj=>?_⟩⟩,by rw[hlen];exact hlm2,fun y hy=>?_⟩
  · obtain⟨cs',h1,h2,_⟩:=hxs j p hj
    refine⟨cs',k.K_len h2,h2,fun i u hu=>?_⟩
    obtain⟨_,_,h3⟩:=World.cells?_some h1
    have h4:=h3 i (by have:=(List.getElem?_eq_some_iff.1 hu).1;have:=k.K_len h2;omega)
    rw[←hc,←Go.Proofs.YtefhljhpcpajgaaW.PrintWords.add_add]
    rw[←hu];exact h4
  obtain⟨i,hi,rfl⟩:=List.mem_iff_getElem.1 hy
  obtain⟨_,_,_,h3⟩:=hxs i _ (List.getElem?_eq_getElem hi)
  exact h3
theorem field_reads {H : Type} {enc : TypeId × Value → H} {P : Program} {w : World} {base : Nat} {spare : Nat → Bool} {held : Bool} {fuel : Nat} {t : TypeId} {cs : List Value} {x : DataW H × List MemPlace} {fs : Array Field}
    (ht:P.underlying t=some (.struct fs)) (h:DataW.trod enc P w base spare held fuel t cs=some x):
    cs.length=P.cellsOf t∧∃ n,∀ (i:Nat) (f:Field),fs[i]? =some f→∃ y,DataW.trod enc P w base spare held n f.type ((cs.drop f.offset).take (P.cellsOf f.type))=some y:=by
  obtain⟨xs,n,_,_,hl,hx,hf⟩:=DataW.trod_struct ht h
  refine⟨hl,n,fun i f hif=>?_⟩
  rw[hf i f hif]
  have hi:=(Array.getElem?_eq_some_iff.1 hif).1
  exact⟨_,List.getElem?_eq_getElem (by rw[hx];exact hi)⟩
theorem slice_cells {α:Type} {k:Kd α} {e:Nat} {w:World} {xs:List α} {v:Value} (h:(Kd.slice e k).K w xs [v]): ∃ A c,v= .slice A xs.length c∧xs.length≤c∧k.C w A xs.length xs:=by
  obtain⟨A,c,he,hl,hc⟩:=h
  injection he with he
  exact⟨A,c,he,hl,hc⟩
theorem band {a b:Bool} (h1:a=true) (h2:b=true):(a&&b)=true:=by rw[h1,h2];rfl
theorem mayEnter_of {P:Program} {L c:List Char} {rest:List (List Char)} (h:P.initOrder.toList=L) (h1:behindMainWord (wordsSigns L)=c::rest) (h2:((stripLifts liftWords (c::rest)).2.head? ==some "cut".toList)=true) (h3:P.laysLater=false) (h4:P.bearsReflect=false) (h5:(stripLifts liftWords (c::rest)).1=[]) (h6:P.doorFits [] =true):P.mayEnter=true:=by
  unfold Program.mayEnter
  rw[h,h1]
  dsimp only
  rw[h2,h3,h4,h5,h6]
  simp
theorem make_of {P:Program} {L:List Char} {rest:List (List Char)} (h:P.initOrder.toList=L) (h1:behindMainWord (wordsSigns L)= "cut".toList::rest):P.make=some .cut:=by
  unfold Program.make
  rw[h,h1]
  dsimp only
  rw[if_neg (by decide),if_pos (by simp)]
end Go.Proofs.YtefhljhpcpajgaaX
set_option maxRecDepth 10000
namespace Go.Proofs.Ytefhljhpcpajgaa.Join
open YtefhljhpcpajgaaX
def initSigns:List Char:=['h','a','r','n','e','s','s',' ','5','6','5','d','d','d','3','6','6','5','c','5','5','9','c','2','4','9','e','2','e','3','7','8','c','7','1','b','b','b','4','7','4','9','6','8','7','8','a','7','0','b','1','c','4','8','9','f','4','3','5','5','6','b','b','7','f','7','f','7','4','9','2','f',' ','c','u','t',' ','a','t',' ','b','a','c','k','h','a','u','l','/','b','a','c','k','h','a','u','l','l','a','w','0','2','.','C','e','n','t','s','S','u','m','s',' ','b','a','c','k','h','a','u','l','/','b','a','c','k','h','a','u','l','l','a','w','0','2','.','C','e','n','t','s','S','h','a','r','e','s',' ','b','a','c','k','h','a','u','l','/','b','a','c','k','h','a','u','l','l','a','w','0','2','.','C','e','n','t','s','O','v','e','r',' ','b','a','c','k','h','a','u','l','/','b','a','c','k','h','a','u','l','l','a','w','0','2','.','C','e','n','t','s','D','i','v','s',' ','b','a','c','k','h','a','u','l','/','b','a','c','k','h','a','u','l','l','a','w','0','4','.','F','e','e','T','e','l','l','s',' ','b','a','c','k','h','a','u','l','/','b','a','c','k','h','a','u','l','l','a','w','0','4','.','F','e','e','B','o','u','n','d','s',' ','b','a','c','k','h','a','u','l','/','b','a','c','k','h','a','u','l','l','a','w','0','4','.','F','e','e','S','t','e','p','s',' ','b','a','c','k','h','a','u','l','/','b','a','c','k','h','a','u','l','l','a','w','0','3','.','S','h','a','r','e','D','e','a','l','s',' ','b','a','c','k','h','a','u','l','/','b','a','c','k','h','a','u','l','l','a','w','0','3','.','S','h','a','r','e','A','l','l',' ','b','a','c','k','h','a','u','l','/','b','a','c','k','h','a','u','l','l','a','w','0','3','.','S','h','a','r','e','F','a','i','r',' ','b','a','c','k','h','a','u','l','/','b','a','c','k','h','a','u','l','l','a','w','2','1','.','L','i','n','e','D','e','a','l','s',' ','b','a','c','k','h','a','u','l','/','b','a','c','k','h','a','u','l','l','a','w','2','1','.','L','i','n','e','T','e','l','l','s',' ','b','a','c','k','h','a','u','l','/','b','a','c','k','h','a','u','l','l','a','w','2','1','.','L','i','n','e','A','l','l',' ','b','a','c','k','h','a','u','l','/','b','a','c','k','h','a','u','l','l','a','w','2','1','.','L','i','n','e','U','n','i','t','s',' ','b','a','c','k','h','a','u','l','/','b','a','c','k','h','a','u','l','l','a','w','2','2','.','V','a','l','u','e','T','e','l','l','s',' ','b','a','c','k','h','a','u','l','/','b','a','c','k','h','a','u','l','l','a','w','2','2','.','V','a','l','u','e','B','o','u','n','d','s',' ','b','a','c','k','h','a','u','l','/','b','a','c','k','h','a','u','l','l','a','w','2','2','.','V','a','l','u','e','W','h','o','l','e',' ','b','a','c','k','h','a','u','l','/','b','a','c','k','h','a','u','l','l','a','w','2','6','.','O','r','d','e','r','M','a','k','e','s',' ','b','a','c','k','h','a','u','l','/','b','a','c','k','h','a','u','l','l','a','w','2','6','.','O','r','d','e','r','T','e','l','l','s',' ','b','a','c','k','h','a','u','l','/','b','a','c','k','h','a','u','l','l','a','w','2','6','.','O','r','d','e','r','D','e','a','l','s',' ','b','a','c','k','h','a','u','l','/','b','a','c','k','h','a','u','l','l','a','w','2','6','.','O','r','d','e','r','F','i','n','d','s']
theorem initText:Try.pinned.checked.prog.initOrder=String.ofList initSigns:=by kernel_rfl
theorem initList:Try.pinned.checked.prog.initOrder.toList=initSigns:=(congrArg String.toList initText).trans String.toList_ofList
theorem mayEnter_is:Try.pinned.checked.prog.mayEnter=true:=
  mayEnter_of (L:=initSigns) (c:= "cut".toList) (rest:=(behindMainWord (wordsSigns initSigns)).tail) initList (by kernel_rfl) (by kernel_rfl) (by kernel_rfl) (by kernel_rfl) (by kernel_rfl) (by kernel_rfl)
theorem make_is:Try.pinned.checked.prog.make=some .cut:=
  make_of (L:=initSigns) (rest:=(behindMainWord (wordsSigns initSigns)).tail) initList (by kernel_rfl)
theorem lifts_is:Try.pinned.checked.prog.liftsFinal=false:=by
  unfold Program.liftsFinal Program.headLifts
  rw[initList]
  kernel_rfl
end Go.Proofs.Ytefhljhpcpajgaa.Join
namespace Go.Proofs.Ytefhljhpcpajgaa.orderMakes
open Go.ChangeShapes Go.WideShapes Go.ChangeAt Go.RowKit YtefhljhpcpajgaaX Ytefhljhpcpajgaa.F YtefhljhpcpajgaaW.PrintWords YtefhljhpcpajgaaW.PrintLast YtefhljhpcpajgaaW.PrintMore
open Go.ChangeMaps (open_string shut_string)
theorem own:ownKnob Try.prog.godebug=none:=by kernel_rfl
theorem laidOut:laidOutB Try.prog=true:=by kernel_rfl
theorem opens_k71:Opens Try.prog 71 k71 (fun x=> ((Lit.int .i64 x.f0).wf=true∧(Lit.int .i64 x.f1).wf=true∧(Lit.int .i64 x.f2).wf=true∧(Lit.int .i64 x.f3).wf=true∧(x.f4.length≤maxLen∧∀ y ∈ x.f4,y.size≤maxLen))):=by
  intro H enc w base spare held fuel cs x h
  obtain⟨hl,n,hf⟩:=field_reads Try.underlying71 h
  have hl2:cs.length=5:=hl.trans (by kernel_rfl)
  match cs,hl2 with
  | [c0,c1,c2,c3,c4],_=>
    obtain⟨y0,h0⟩:=hf 0 _ rfl
    have e0:Try.prog.cellsOf 3=1:=by kernel_rfl
    (try dsimp only at h0)
    (try simp only[e0] at h0)
    obtain⟨a0,k0,Z⟩:=(Opens.int Try.underlying3) h0
    have k0':((Kd.int .i64)).K w a0 [c0] :=k0
    obtain⟨y1,h1⟩:=hf 1 _ rfl
    have e1:Try.prog.cellsOf 3=1:=by kernel_rfl
    (try dsimp only at h1)
    (try simp only[e1] at h1)
    obtain⟨a1,k1,I⟩:=(Opens.int Try.underlying3) h1
    have k1':((Kd.int .i64)).K w a1 [c1] :=k1
    obtain⟨y2,h2⟩:=hf 2 _ rfl
    have e2:Try.prog.cellsOf 3=1:=by kernel_rfl
    (try dsimp only at h2)
    (try simp only[e2] at h2)
    obtain⟨a2,k2,o2⟩:=(Opens.int Try.underlying3) h2
    have k2':((Kd.int .i64)).K w a2 [c2] :=k2
    obtain⟨y3,h3⟩:=hf 3 _ rfl
    have e3:Try.prog.cellsOf 3=1:=by kernel_rfl
    (try dsimp only at h3)
    (try simp only[e3] at h3)
    obtain⟨a3,k3,o3⟩:=(Opens.int Try.underlying3) h3
    have k3':((Kd.int .i64)).K w a3 [c3] :=k3
    obtain⟨y4,h4⟩:=hf 4 _ rfl
    have e4:Try.prog.cellsOf 69=1:=by kernel_rfl
    (try dsimp only at h4)
    (try simp only[e4] at h4)
    obtain⟨a4,k4,o4⟩:=(Opens.slice Try.underlying69 (by kernel_rfl) (Opens.string Try.underlying9)) h4
    have k4':((Kd.slice 9 Kd.string)).K w a4 [c4] :=k4
    exact⟨(⟨a0,a1,a2,a3,a4⟩:S71),⟨[c0],[c1,c2,c3,c4],rfl,k0',⟨[c1],[c2,c3,c4],rfl,k1',⟨[c2],[c3,c4],rfl,k2',⟨[c3],[c4],rfl,k3',k4'⟩⟩⟩⟩,⟨Z,I,o2,o3,o4⟩⟩
theorem opens_k97:Opens Try.prog 97 k97 (fun x=> ((Lit.int .i64 x.f0).wf=true∧(Lit.int .i64 x.f1).wf=true∧(Lit.int .i64 x.f2).wf=true∧(Lit.int .i64 x.f3).wf=true)):=by
  intro H enc w base spare held fuel cs x h
  obtain⟨hl,n,hf⟩:=field_reads Try.underlying97 h
  have hl2:cs.length=4:=hl.trans (by kernel_rfl)
  match cs,hl2 with
  | [c0,c1,c2,c3],_=>
    obtain⟨y0,h0⟩:=hf 0 _ rfl
    have e0:Try.prog.cellsOf 3=1:=by kernel_rfl
    (try dsimp only at h0)
    (try simp only[e0] at h0)
    obtain⟨a0,k0,Z⟩:=(Opens.int Try.underlying3) h0
    have k0':((Kd.int .i64)).K w a0 [c0] :=k0
    obtain⟨y1,h1⟩:=hf 1 _ rfl
    have e1:Try.prog.cellsOf 3=1:=by kernel_rfl
    (try dsimp only at h1)
    (try simp only[e1] at h1)
    obtain⟨a1,k1,I⟩:=(Opens.int Try.underlying3) h1
    have k1':((Kd.int .i64)).K w a1 [c1] :=k1
    obtain⟨y2,h2⟩:=hf 2 _ rfl
    have e2:Try.prog.cellsOf 3=1:=by kernel_rfl
    (try dsimp only at h2)
    (try simp only[e2] at h2)
    obtain⟨a2,k2,o2⟩:=(Opens.int Try.underlying3) h2
    have k2':((Kd.int .i64)).K w a2 [c2] :=k2
    obtain⟨y3,h3⟩:=hf 3 _ rfl
    have e3:Try.prog.cellsOf 3=1:=by kernel_rfl
    (try dsimp only at h3)
    (try simp only[e3] at h3)
    obtain⟨a3,k3,o3⟩:=(Opens.int Try.underlying3) h3
    have k3':((Kd.int .i64)).K w a3 [c3] :=k3
    exact⟨(⟨a0,a1,a2,a3⟩:S97),⟨[c0],[c1,c2,c3],rfl,k0',⟨[c1],[c2,c3],rfl,k1',⟨[c2],[c3],rfl,k2',k3'⟩⟩⟩,⟨Z,I,o2,o3⟩⟩
theorem lifted (os : Os) (started : os.Started) (H : Type) (enc : TypeId × Value → H) :
    ReturnsInHanded {} Try.checked os 20 .any (Rows.orderMakesSpec.pre6 enc Try.prog Try.f20 Rows.orderMakesRow.domain false) (Rows.orderMakesSpec.post enc Try.prog Try.f20 false true false false):=by
  refine returnsInHanded_of_change_sized (C:=Try.checked) own started (by kernel_rfl) Try.func20
    (ChangeSpec.witness6 (enc:=enc) (C:=Try.checked) false ⟨#[],#[.slice none 0 0,.agg #[.int .i64 0,.int .i64 0,.int .i64 0,.int .i64 0]],[]⟩ 8 (by kernel_rfl) (by kernel_rfl) (by kernel_rfl) (by kernel_rfl)) ?_
  intro W base args ds gs before hval0 hW hcnd hsz0 _
  have hval: ∀ (j:Nat) t v,Try.f20.params[j]? =some t→args[j]? =some v→Value.okWide Try.prog W .any base t v:=hval0
  have hW':=hW
  obtain⟨p,q,hA0,hV,rfl,hfz,hnd⟩:=hW
  have hA:DataW.TrodAll enc Try.prog W 0 (fun _=>true) true Try.f20.params.toList args.toList ds p:=hA0
  rw[Try.params20] at hA hval
  obtain⟨v0,vs0,d0,ds0,p0,q0,hargs,rfl,rfl,h0,r0⟩:=trodAll_cons hA
  obtain⟨v1,vs1,d1,ds1,p1,q1,rfl,rfl,rfl,h1,r1⟩:=trodAll_cons r0
  obtain⟨rfl,rfl,rfl⟩:=trodAll_nil r1
  obtain rfl:args= #[v0,v1] :=by cases args;simp_all
  obtain⟨rfl,rfl⟩:=trodVars_none hV
  have k0:=h0
  have lt0: ∀ x ∈ p0,x.block < W.heap.size:=by obtain⟨m,hm⟩:=k0;exact DataW.trod_lt m _ _ _ hm
  obtain⟨b0,len0,cap0,rfl⟩:=okWide_slice Try.underlying59 (hval 0 59 v0 rfl rfl)
  obtain⟨f0,hf0⟩:=h0
  obtain⟨x0,hk0,ho0⟩:=(Opens.slice Try.underlying59 (by kernel_rfl) opens_k71) hf0
  obtain⟨A0,c0,he0,hl0,hc0⟩:=slice_cells (show _ from hk0)
  injection he0 with e0_1 e0_2 e0_3
  subst e0_1 e0_2 e0_3
  have k1:=h1
  have lt1: ∀ x ∈ p1,x.block < W.heap.size:=by obtain⟨m,hm⟩:=k1;exact DataW.trod_lt m _ _ _ hm
  obtain⟨cs1,rfl,_⟩:=okWide_struct Try.underlying97 (hval 1 97 v1 rfl rfl)
  obtain⟨f1,hf1⟩:=h1
  obtain⟨x1,hk1,ho1⟩:=opens_k97 hf1
  have he1:=k97_open hk1
  obtain rfl:cs1=_:=Array.toList_inj.1 (he1.trans (List.toList_toArray).symm)
  obtain⟨k,h⟩: ∃ k,bZ.f k x0 x1.f0 x1.f1 x1.f2 x1.f3=some true:=Pure.OrderMakes x0 x1.f0 x1.f1 x1.f2 x1.f3 ho0 ho1.1 ho1.2.1 ho1.2.2.1 ho1.2.2.2
  refine(bZ.calls k _ _ x0 x1.f0 x1.f1 x1.f2 x1.f3 W hc0 hl0 h).mono fun e W' hq=>?_
  obtain⟨he,bel0⟩:=hq
  have bel:Below W.heap.size W W':=bel0
  subst he
  exact⟨_,rfl,_,_,_,[],_,[],hW',trodAll_mk1 (shut_bool Try.underlying4 _),(trodAll_cons_mk (Below.trod laidOut (by kernel_rfl) (of_decide_eq_true (by kernel_rfl)) k0 bel lt0) (trodAll_cons_mk (Below.trod laidOut (by kernel_rfl) (of_decide_eq_true (by kernel_rfl)) k1 bel lt1) trodAll_mk0)),rfl,bel.frame _,fun h=>by cases h⟩
theorem closed_:joinedFacts Try.pinned.checked.prog 20 Try.f20 Rows.orderMakesSpec Rows.orderMakesRow=true:=by
  unfold joinedFacts
  repeat' (with_reducible apply band)
  any_goals with_reducible exact Join.mayEnter_is
  any_goals (rw[Join.make_is];kernel_rfl)
  any_goals (rw[Join.lifts_is];kernel_rfl)
  all_goals kernel_rfl
theorem over:Rows.orderMakesRow.holds Try.pinned (OpenSpec.ofChange Rows.orderMakesSpec):=
  OpenClaim.holds_of_wide 20 Try.f20 rfl rfl rfl rfl rfl rfl rfl ⟨rfl,rfl,rfl,rfl,rfl⟩ rfl rfl rfl rfl rfl (by kernel_rfl) Try.func20 closed_
    (of_decide_eq_true (by kernel_rfl)) (by unfold Func.isWrapper;first|(rw[if_pos (by decide+kernel)];kernel_rfl)|(rw[if_neg (by decide+kernel)];exact⟨rfl,rfl⟩))
    (fun os started H enc _=>lifted os started H enc)
theorem proved:Rows.OrderMakesSaid:=over
#print axioms proved
end Go.Proofs.Ytefhljhpcpajgaa.orderMakes
namespace Go.Proofs.Ytefhljhpcpajgaa
theorem orderMakes_holds:Rows.OrderMakesSaid:=orderMakes.proved
end Go.Proofs.Ytefhljhpcpajgaa
