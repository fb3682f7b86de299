-- by prune.py (own program),out of the print
import Derived.Test.YtefhljhpcpajgaaProg
import Derived.Below
import Derived.Deep.Draws
import Derived.Deep.AppendLies
import Derived.Maps.AppendAt
import Derived.OwnWalk
import Derived.Laws.BytesArg
import Derived.Laws.MakeOwn
import Derived.Laws.OwnMore
import Derived.Deep.OwnRows
import Derived.Tactics
import Derived.Lib.ConvBytes
import Derived.Laws.Slices
import Derived.WalkKit
import Derived.KernelRfl
import Derived.RowKit3
import Derived.Deep.LoopGhost
import Derived.Deep.QuietTactic
import Derived.BigQuiet
import Derived.WideLaws
import Derived.Deep.DeepCutAuto
import Derived.Deep.CutBlock
import Derived.Deep.RegionHeld3
import Derived.Laws.Rows
import Derived.Lib.AppendStr
import Derived.ArgAppend
import Derived.Laws.IdiomCopy
import Derived.OrdersHeld
import Derived.Laws.BitsLemmas
import Derived.RowKit
import Derived.Laws.StructEq
import Derived.Deep.RegionLawGrows
import Derived.Lib.SliceRun
import Derived.Shelf.SlSortCmp.Insertion1
import Derived.Shelf.Small.Bits
import Derived.Shelf.Utf8.RuneCount
import Derived.Shelf.Strconv.Itoa0
import Derived.Shelf.Strings.Prefix
import Derived.Shelf.Strings.RuneCount
import Derived.Shelf.Bits.Mul64
import Derived.Ground.Names2Prog
import Derived.Shelf.Slices.SearchI
import Derived.Ground.SlsfProg
import Derived.Shelf.SlSortCmp.Insertion
import Derived.Sort.LotA
import Derived.Sort.OwnSortedInts
import Derived.Lib.OthersKept
import Derived.Lib.RuneCount
import Derived.Laws.Cover4
import Derived.Outline
import Derived.Test.YtefhljhpcpajgaaZOrderMakes3
set_option maxHeartbeats 16000000
set_option maxRecDepth 100000
set_option linter.unusedVariables false
set_option linter.unusedSimpArgs false
set_option linter.unusedVariables false
namespace Go.Proofs.Ytefhljhpcpajgaa.F
open Go.Sort Go.Shelf Go.Lib
open Go.RowKit Go.Proofs.YtefhljhpcpajgaaX Go.Proofs.YtefhljhpcpajgaaW.PrintWords Go.Proofs.YtefhljhpcpajgaaW.PrintLast Go.Proofs.YtefhljhpcpajgaaW.PrintMore
open Go.Proofs.Ytefhljhpcpajgaa.Stable
theorem sym_midB {α:Type} [Inhabited α] (enc:α→Value) (cf:α→α→Int) (g:Nat) (cb:Array Value) (blk off cap a m b mid f0:Nat) (d0 d:Array α) (w0 w:World) (eg: ∀ args w,(callFunc g args).run Try.prog w= .ok (.enter g args) w) (hcmp:CmpLays1 Try.prog g cb enc cf blk off d0.size w0) (R:Row1 enc w0 blk off d0) (hs:d0.size=d.size) (S:SW enc w0 blk off d w)
  (ha1:a+1 < m) (hm:m+1 < b) (hmid:mid=(a+b) / 2) (hA:m≤mid) (hb:b≤d.size) (hsz:d.size < 4611686018427387904)
  (rec: ∀ (a m b:Nat) (d:Array α) (w:World),a < m→m < b→b - a≤f0→b≤d.size→d0.size=d.size→SW enc w0 blk off d w→Calls Try.prog 156 #[.slice (some ⟨blk,off,none⟩) d.size cap,.int .i64 a,.int .i64 m,.int .i64 b,.func (.func g) #[] cb] w fun e w'=>e= .returned (.tuple #[])∧SW enc w0 blk off (sym (ltOf cf) f0 a m b d) w') (hf0:b - a≤f0+1):
  Calls Try.prog 156 #[.slice (some ⟨blk,off,none⟩) d.size cap,.int .i64 a,.int .i64 m,.int .i64 b,.func (.func g) #[] cb] w fun e w'=>e= .returned (.tuple #[])∧SW enc w0 blk off (sym (ltOf cf) (f0+1) a m b d) w':=by
 have mixed:Try.prog.follows Departure.mixedOrders=true:=by kernel_rfl
 have u22:=run_underlying Try.underlying22
 have hcl0:=R.hO.cells
 simp only[Value.cells] at hcl0
 have hst:=R.hO.store Try.prog
 have HC:Aside _:=hcmp
 have HR:Aside _:=rec
 have S0:Aside (SW enc w0 blk off d w):=S
 have hma:IntKind.i64.wrap ((m:Int) - (a:Int))=(m:Int) - (a:Int):=by rw[IntKind.wrap_i64];omega
 have hma':(((m:Int) - (a:Int)==1)=false):=by simp;omega
 have hmb:IntKind.i64.wrap ((b:Int) - (m:Int))=(b:Int) - (m:Int):=by rw[IntKind.wrap_i64];omega
 have hmb':(((b:Int) - (m:Int)==1)=false):=by simp;omega
 have emid:((a:Int)+(b:Int)) / 2=(mid:Int):=by omega
 have hA':decide ((mid:Int) < (m:Int))=false:=decide_eq_false (by omega)
 have hA2:((mid:Int) < (m:Int))=False:=eq_false (by omega)
 have hwn:IntKind.i64.wrap ((mid:Int)+(m:Int))=(mid:Int)+(m:Int):=by rw[IntKind.wrap_i64];omega
 have hwb:IntKind.i64.wrap ((mid:Int)+(m:Int) - (b:Int))=(mid:Int)+(m:Int) - (b:Int):=by rw[IntKind.wrap_i64];omega
 have hwp:IntKind.i64.wrap ((mid:Int)+(m:Int) - 1)=(mid:Int)+(m:Int) - 1:=by rw[IntKind.wrap_i64];omega
 have HE:Aside0 (sym (ltOf cf) (f0+1) a m b d=(if mid < mid+m - (bs (fun c=>!ltOf cf d[mid+m - 1 - c]! d[c]!) (m - a) a m)∧mid+m - (bs (fun c=>!ltOf cf d[mid+m - 1 - c]! d[c]!) (m - a) a m) < b then sym (ltOf cf) f0 mid (mid+m - (bs (fun c=>!ltOf cf d[mid+m - 1 - c]! d[c]!) (m - a) a m)) b (if a < (bs (fun c=>!ltOf cf d[mid+m - 1 - c]! d[c]!) (m - a) a m)∧(bs (fun c=>!ltOf cf d[mid+m - 1 - c]! d[c]!) (m - a) a m) < mid then sym (ltOf cf) f0 a (bs (fun c=>!ltOf cf d[mid+m - 1 - c]! d[c]!) (m - a) a m) mid (if(bs (fun c=>!ltOf cf d[mid+m - 1 - c]! d[c]!) (m - a) a m) < m∧m < mid+m - (bs (fun c=>!ltOf cf d[mid+m - 1 - c]! d[c]!) (m - a) a m)then rot m (m - (bs (fun c=>!ltOf cf d[mid+m - 1 - c]! d[c]!) (m - a) a m)+(mid+m - (bs (fun c=>!ltOf cf d[mid+m - 1 - c]! d[c]!) (m - a) a m) - m)) (m - (bs (fun c=>!ltOf cf d[mid+m - 1 - c]! d[c]!) (m - a) a m)) (mid+m - (bs (fun c=>!ltOf cf d[mid+m - 1 - c]! d[c]!) (m - a) a m) - m) d else d)else(if(bs (fun c=>!ltOf cf d[mid+m - 1 - c]! d[c]!) (m - a) a m) < m∧m < mid+m - (bs (fun c=>!ltOf cf d[mid+m - 1 - c]! d[c]!) (m - a) a m)then rot m (m - (bs (fun c=>!ltOf cf d[mid+m - 1 - c]! d[c]!) (m - a) a m)+(mid+m - (bs (fun c=>!ltOf cf d[mid+m - 1 - c]! d[c]!) (m - a) a m) - m)) (m - (bs (fun c=>!ltOf cf d[mid+m - 1 - c]! d[c]!) (m - a) a m)) (mid+m - (bs (fun c=>!ltOf cf d[mid+m - 1 - c]! d[c]!) (m - a) a m) - m) d else d))else(if a < (bs (fun c=>!ltOf cf d[mid+m - 1 - c]! d[c]!) (m - a) a m)∧(bs (fun c=>!ltOf cf d[mid+m - 1 - c]! d[c]!) (m - a) a m) < mid then sym (ltOf cf) f0 a (bs (fun c=>!ltOf cf d[mid+m - 1 - c]! d[c]!) (m - a) a m) mid (if(bs (fun c=>!ltOf cf d[mid+m - 1 - c]! d[c]!) (m - a) a m) < m∧m < mid+m - (bs (fun c=>!ltOf cf d[mid+m - 1 - c]! d[c]!) (m - a) a m)then rot m (m - (bs (fun c=>!ltOf cf d[mid+m - 1 - c]! d[c]!) (m - a) a m)+(mid+m - (bs (fun c=>!ltOf cf d[mid+m - 1 - c]! d[c]!) (m - a) a m) - m)) (m - (bs (fun c=>!ltOf cf d[mid+m - 1 - c]! d[c]!) (m - a) a m)) (mid+m - (bs (fun c=>!ltOf cf d[mid+m - 1 - c]! d[c]!) (m - a) a m) - m) d else d)else(if(bs (fun c=>!ltOf cf d[mid+m - 1 - c]! d[c]!) (m - a) a m) < m∧m < mid+m - (bs (fun c=>!ltOf cf d[mid+m - 1 - c]! d[c]!) (m - a) a m)then rot m (m - (bs (fun c=>!ltOf cf d[mid+m - 1 - c]! d[c]!) (m - a) a m)+(mid+m - (bs (fun c=>!ltOf cf d[mid+m - 1 - c]! d[c]!) (m - a) a m) - m)) (m - (bs (fun c=>!ltOf cf d[mid+m - 1 - c]! d[c]!) (m - a) a m)) (mid+m - (bs (fun c=>!ltOf cf d[mid+m - 1 - c]! d[c]!) (m - a) a m) - m) d else d)))):=⟨by
  rw[sym,if_neg (by omega),if_neg (by omega),←hmid]
  dsimp only
  rw[if_neg (show ¬ mid < m by omega),if_neg (show ¬ mid < m by omega)]⟩
 have HS:Aside0 (a≤bs (fun c=>!ltOf cf d[mid+m - 1 - c]! d[c]!) (m - a) a m∧bs (fun c=>!ltOf cf d[mid+m - 1 - c]! d[c]!) (m - a) a m≤m):=⟨bs_in _ _ _ _ (by omega) (by omega)⟩
 have HM:=Aside0.mk hmid
 clear S hcmp rec hmid
 go_enter Try.func156,Try.ntmps156
 go_wp2
 go_loopg[20,21] (m - a) (fun g1 vi vj wr=> ∃ (i j f:Nat),vi= .int .i64 i∧vj= .int .i64 j∧a≤i∧i≤j∧j≤m∧j≤g1+i∧j≤f+i∧Aside (SW enc w0 blk off d wr)∧Hid (bs (fun c=>!ltOf cf d[mid+m - 1 - c]! d[c]!) f i j=bs (fun c=>!ltOf cf d[mid+m - 1 - c]! d[c]!) (m - a) a m))
 case atStart=>have:=HM.out;exact⟨a,m,m - a,by first|rfl|(congr 1;omega),by first|rfl|(congr 1;omega),Nat.le_refl _,by omega,Nat.le_refl _,by omega,by omega,S0,rfl⟩
 case round=>
  clear S0
  obtain⟨i,j,f,rfl,rfl,him,hij,hjb,hg1,hf,S1,HO⟩:=hrel
  by_cases hlt:i < j
  ·have hltz:(i:Int) < (j:Int):=by omega
   obtain⟨f,rfl⟩: ∃ q,f=q+1:=⟨f - 1,by omega⟩
   have hM:=HM.out
   obtain⟨h,hh⟩: ∃ q,q=(i+j) / 2:=⟨_,rfl⟩
   obtain⟨pN,hpN⟩: ∃ q,q=mid+m - 1 - h:=⟨_,rfl⟩
   have eh:((i:Int)+(j:Int)) / 2=(h:Int):=by omega
   have ba:(h:Int) < (d.size:Int):=by omega
   have rh:IntKind.i64.wrap ((h:Int)+1)=(h:Int)+1:=by rw[IntKind.wrap_i64];omega
   have esub:(mid:Int)+(m:Int) - 1 - (h:Int)=(pN:Int):=by omega
   have bc:(pN:Int) < (d.size:Int):=by omega
   have rc:IntKind.i64.wrap ((pN:Int))=(pN:Int):=by rw[IntKind.wrap_i64];omega
   obtain⟨x,hx⟩: ∃ x,x=d[pN]! :=⟨_,rfl⟩
   obtain⟨y,hy⟩: ∃ x,x=d[h]! :=⟨_,rfl⟩
   have la:=S1.out.cl R (by omega) pN (by omega)
   have lb:=S1.out.cl R (by omega) h (by omega)
   rw[←hx] at la
   rw[←hy] at lb
   have hc:=S1.out.cmp HC.out (by omega) x y
   have qf:i≤h∧h < j:=by omega
   clear hM
   cases hlv:ltOf cf d[pN]! d[h]! with
   |false=>
    have hd:decide (cf x y < 0)=false:=by rw[hx,hy];exact hlv
    have HX:Hid (bs (fun c=>!ltOf cf d[mid+m - 1 - c]! d[c]!) f (h+1) j=bs (fun c=>!ltOf cf d[mid+m - 1 - c]! d[c]!) (m - a) a m):=by
     show _=_
     rw[←HO.out,bs,if_pos hlt,if_pos (by rw[←hh,←hpN];simp[hlv]),hh]
    have HH:=Aside0.mk hh
    clear hx hy hlv hh hpN
    go_wp2_with fail
    go_quiet_grown (first|(go_at_fn g;refine Calls.grown_of (hc _ _)))
    have S2:Aside (SW enc w0 blk off d (grow (wr.drewN nq) osq)):=S1.out.grown nq osq
    clear la lb hc S1
    generalize grow (wr.drewN nq) osq=w2 at S2⊢
    clear nq osq
    go_wp2
    go_roundg (j - (h+1))
    case measure=>omega
    case rel=>have:=HM.out;exact⟨h+1,j,f,by first|rfl|(congr 1;omega),rfl,by omega,by omega,hjb,by omega,by omega,S2,HX⟩
   |true=>
    have hd:decide (cf x y < 0)=true:=by rw[hx,hy];exact hlv
    have HX:Hid (bs (fun c=>!ltOf cf d[mid+m - 1 - c]! d[c]!) f i h=bs (fun c=>!ltOf cf d[mid+m - 1 - c]! d[c]!) (m - a) a m):=by
     show _=_
     rw[←HO.out,bs,if_pos hlt,if_neg (by rw[←hh,←hpN];simp[hlv]),hh]
    have HH:=Aside0.mk hh
    clear hx hy hlv hh hpN
    go_wp2_with fail
    go_quiet_grown (first|(go_at_fn g;refine Calls.grown_of (hc _ _)))
    have S2:Aside (SW enc w0 blk off d (grow (wr.drewN nq) osq)):=S1.out.grown nq osq
    clear la lb hc S1
    generalize grow (wr.drewN nq) osq=w2 at S2⊢
    clear nq osq
    go_wp2
    go_roundg (h - i)
    case measure=>omega
    case rel=>have:=HM.out;exact⟨i,h,f,rfl,by first|rfl|(congr 1;omega),him,by omega,by omega,by omega,by omega,S2,HX⟩
  obtain rfl:i=j:=by omega
  have hsi:i=bs (fun c=>!ltOf cf d[mid+m - 1 - c]! d[c]!) (m - a) a m:=by
   rw[←HO.out]
   cases f with
   |zero=>rw[bs]
   |succ f=>rw[bs,if_neg hlt]
  have hF:=HE.out
  rw[←hsi] at hF
  have hS:=HS.out
  rw[←hsi] at hS
  have HF:=Aside0.mk hF
  clear HO hsi HE hF HS
  have hM:=HM.out
  have we:IntKind.i64.wrap ((mid:Int)+(m:Int) - (i:Int))=(mid:Int)+(m:Int) - (i:Int):=by rw[IntKind.wrap_i64];omega
  have ce:((mid+m - i:Nat):Int)=(mid:Int)+(m:Int) - (i:Int):=by omega
  have h1: ∀ (wr:World),i < m→m < mid+m - i→Aside (SW enc w0 blk off d wr)→Calls Try.prog 163 #[.slice (some ⟨blk,off,none⟩) d.size cap,.int .i64 i,.int .i64 m,.int .i64 ((mid:Int)+(m:Int) - (i:Int)),.func (.func g) #[] cb] wr fun e w'=>e= .returned (.tuple #[])∧SW enc w0 blk off (rot m (m - i+(mid+m - i - m)) (m - i) (mid+m - i - m) d) w':=fun wr q1 q2 S=>by
   have:=rotate_calls enc g cb blk off cap i m (mid+m - i) d0 d w0 wr R hs S.out q1 q2 (by omega) hsz
   rw[ce] at this
   exact this
  have H1:=Aside0.mk h1
  have h2: ∀ (dk:Array α) (wr:World),a < i→i < mid→dk.size=d.size→Aside (SW enc w0 blk off dk wr)→Calls Try.prog 156 #[.slice (some ⟨blk,off,none⟩) d.size cap,.int .i64 a,.int .i64 i,.int .i64 mid,.func (.func g) #[] cb] wr fun e w'=>e= .returned (.tuple #[])∧SW enc w0 blk off (sym (ltOf cf) f0 a i mid dk) w':=fun dk wr q1 q2 hz S=>by
   have:=HR.out a i mid dk wr q1 q2 (by omega) (by omega) (by omega) S.out
   rw[hz] at this
   exact this
  have H2:=Aside0.mk h2
  have h3: ∀ (dk:Array α) (wr:World),mid < mid+m - i→mid+m - i < b→dk.size=d.size→Aside (SW enc w0 blk off dk wr)→Calls Try.prog 156 #[.slice (some ⟨blk,off,none⟩) d.size cap,.int .i64 mid,.int .i64 ((mid:Int)+(m:Int) - (i:Int)),.int .i64 b,.func (.func g) #[] cb] wr fun e w'=>e= .returned (.tuple #[])∧SW enc w0 blk off (sym (ltOf cf) f0 mid (mid+m - i) b dk) w':=fun dk wr q1 q2 hz S=>by
   have:=HR.out mid (mid+m - i) b dk wr q1 q2 (by omega) (by omega) (by omega) S.out
   rw[hz,ce] at this
   exact this
  have H3:=Aside0.mk h3
  clear h1 h2 h3 hM HM HR ce
  have z1:(rot m (m - i+(mid+m - i - m)) (m - i) (mid+m - i - m) d).size=d.size:=rot_size _ _ _ _ _
  by_cases b1:i < m
  ·by_cases b2:a < i
   ·by_cases b4:i < mid
    ·by_cases b3:mid+m - i < b
     ·have D1:decide ((i:Int) < (m:Int))=true:=decide_eq_true (by omega)
      have D2:decide ((m:Int) < (mid:Int)+(m:Int) - (i:Int))=true:=decide_eq_true (by omega)
      have D3:decide ((a:Int) < (i:Int))=true:=decide_eq_true (by omega)
      have D4:decide ((i:Int) < (mid:Int))=true:=decide_eq_true (by omega)
      have D5:decide ((mid:Int) < (mid:Int)+(m:Int) - (i:Int))=true:=decide_eq_true (by omega)
      have D6:decide ((mid:Int)+(m:Int) - (i:Int) < (b:Int))=true:=decide_eq_true (by omega)
      have q1:i < m:=by omega
      have q2:m < mid+m - i:=by omega
      have q3:a < i:=by omega
      have q4:i < mid:=by omega
      have q5:mid < mid+m - i:=by omega
      have q6:mid+m - i < b:=by omega
      have E:=HF.out
      rw[if_pos (And.intro q1 q2),if_pos (And.intro q3 q4),if_pos (And.intro q5 q6)] at E
      have HG:=Aside0.mk E
      clear E HF
      have K1:=Aside0.mk (fun(wr:World) S=>H1.out wr q1 q2 S)
      have K2:=Aside0.mk (fun(wr:World) S=>H2.out (rot m (m - i+(mid+m - i - m)) (m - i) (mid+m - i - m) d) wr q3 q4 z1 S)
      have z2:(sym (ltOf cf) f0 a i mid (rot m (m - i+(mid+m - i - m)) (m - i) (mid+m - i - m) d)).size=d.size:=(sym_size _ _ _ _ _ _).trans z1
      have K3:=Aside0.mk (fun(wr:World) S=>H3.out (sym (ltOf cf) f0 a i mid (rot m (m - i+(mid+m - i - m)) (m - i) (mid+m - i - m) d)) wr q5 q6 z2 S)
      clear H1 H2 H3 z1 z2
      go_wp2_with fail
      with_reducible refine(K1.out _ S1).mono ?_
      rintro e1 w1 ⟨rfl,S2⟩
      have T1:Aside (SW enc w0 blk off (rot m (m - i+(mid+m - i - m)) (m - i) (mid+m - i - m) d) w1):=S2
      clear S2
      go_wp2_with fail
      with_reducible refine(K2.out _ T1).mono ?_
      rintro e2 w2 ⟨rfl,S2⟩
      have T2:Aside (SW enc w0 blk off (sym (ltOf cf) f0 a i mid (rot m (m - i+(mid+m - i - m)) (m - i) (mid+m - i - m) d)) w2):=S2
      clear S2
      go_wp2_with fail
      with_reducible refine(K3.out _ T2).mono ?_
      rintro e3 w3 ⟨rfl,S2⟩
      have T3:Aside (SW enc w0 blk off (sym (ltOf cf) f0 mid (mid+m - i) b (sym (ltOf cf) f0 a i mid (rot m (m - i+(mid+m - i - m)) (m - i) (mid+m - i - m) d))) w3):=S2
      clear S2
      go_wp2
      go_end0
      exact⟨rfl,by rw[HG.out];exact T3.out⟩
     have D1:decide ((i:Int) < (m:Int))=true:=decide_eq_true (by omega)
     have D2:decide ((m:Int) < (mid:Int)+(m:Int) - (i:Int))=true:=decide_eq_true (by omega)
     have D3:decide ((a:Int) < (i:Int))=true:=decide_eq_true (by omega)
     have D4:decide ((i:Int) < (mid:Int))=true:=decide_eq_true (by omega)
     have D5:decide ((mid:Int) < (mid:Int)+(m:Int) - (i:Int))=true:=decide_eq_true (by omega)
     have D6:decide ((mid:Int)+(m:Int) - (i:Int) < (b:Int))=false:=decide_eq_false (by omega)
     have q1:i < m:=by omega
     have q2:m < mid+m - i:=by omega
     have q3:a < i:=by omega
     have q4:i < mid:=by omega
     have n2: ¬ (mid < mid+m - i∧mid+m - i < b):=by omega
     have E:=HF.out
     rw[if_pos (And.intro q1 q2),if_pos (And.intro q3 q4),if_neg n2] at E
     have HG:=Aside0.mk E
     clear E HF
     have K1:=Aside0.mk (fun(wr:World) S=>H1.out wr q1 q2 S)
     have K2:=Aside0.mk (fun(wr:World) S=>H2.out (rot m (m - i+(mid+m - i - m)) (m - i) (mid+m - i - m) d) wr q3 q4 z1 S)
     have z2:(sym (ltOf cf) f0 a i mid (rot m (m - i+(mid+m - i - m)) (m - i) (mid+m - i - m) d)).size=d.size:=(sym_size _ _ _ _ _ _).trans z1
     clear H1 H2 H3 z1 z2
     go_wp2_with fail
     with_reducible refine(K1.out _ S1).mono ?_
     rintro e1 w1 ⟨rfl,S2⟩
     have T1:Aside (SW enc w0 blk off (rot m (m - i+(mid+m - i - m)) (m - i) (mid+m - i - m) d) w1):=S2
     clear S2
     go_wp2_with fail
     with_reducible refine(K2.out _ T1).mono ?_
     rintro e2 w2 ⟨rfl,S2⟩
     have T2:Aside (SW enc w0 blk off (sym (ltOf cf) f0 a i mid (rot m (m - i+(mid+m - i - m)) (m - i) (mid+m - i - m) d)) w2):=S2
     clear S2
     go_wp2
     go_end0
     exact⟨rfl,by rw[HG.out];exact T2.out⟩
    by_cases b3:mid+m - i < b
    ·exfalso;omega
    exfalso;omega
   by_cases b3:mid+m - i < b
   ·have D1:decide ((i:Int) < (m:Int))=true:=decide_eq_true (by omega)
    have D2:decide ((m:Int) < (mid:Int)+(m:Int) - (i:Int))=true:=decide_eq_true (by omega)
    have D3:decide ((a:Int) < (i:Int))=false:=decide_eq_false (by omega)
    have D5:decide ((mid:Int) < (mid:Int)+(m:Int) - (i:Int))=true:=decide_eq_true (by omega)
    have D6:decide ((mid:Int)+(m:Int) - (i:Int) < (b:Int))=true:=decide_eq_true (by omega)
    have q1:i < m:=by omega
    have q2:m < mid+m - i:=by omega
    have n1: ¬ (a < i∧i < mid):=by omega
    have q5:mid < mid+m - i:=by omega
    have q6:mid+m - i < b:=by omega
    have E:=HF.out
    rw[if_pos (And.intro q1 q2),if_neg n1,if_pos (And.intro q5 q6)] at E
    have HG:=Aside0.mk E
    clear E HF
    have K1:=Aside0.mk (fun(wr:World) S=>H1.out wr q1 q2 S)
    have K3:=Aside0.mk (fun(wr:World) S=>H3.out (rot m (m - i+(mid+m - i - m)) (m - i) (mid+m - i - m) d) wr q5 q6 z1 S)
    clear H1 H2 H3 z1
    go_wp2_with fail
    with_reducible refine(K1.out _ S1).mono ?_
    rintro e1 w1 ⟨rfl,S2⟩
    have T1:Aside (SW enc w0 blk off (rot m (m - i+(mid+m - i - m)) (m - i) (mid+m - i - m) d) w1):=S2
    clear S2
    go_wp2_with fail
    with_reducible refine(K3.out _ T1).mono ?_
    rintro e3 w3 ⟨rfl,S2⟩
    have T3:Aside (SW enc w0 blk off (sym (ltOf cf) f0 mid (mid+m - i) b (rot m (m - i+(mid+m - i - m)) (m - i) (mid+m - i - m) d)) w3):=S2
    clear S2
    go_wp2
    go_end0
    exact⟨rfl,by rw[HG.out];exact T3.out⟩
   have D1:decide ((i:Int) < (m:Int))=true:=decide_eq_true (by omega)
   have D2:decide ((m:Int) < (mid:Int)+(m:Int) - (i:Int))=true:=decide_eq_true (by omega)
   have D3:decide ((a:Int) < (i:Int))=false:=decide_eq_false (by omega)
   have D5:decide ((mid:Int) < (mid:Int)+(m:Int) - (i:Int))=true:=decide_eq_true (by omega)
   have D6:decide ((mid:Int)+(m:Int) - (i:Int) < (b:Int))=false:=decide_eq_false (by omega)
   have q1:i < m:=by omega
   have q2:m < mid+m - i:=by omega
   have n1: ¬ (a < i∧i < mid):=by omega
   have n2: ¬ (mid < mid+m - i∧mid+m - i < b):=by omega
   have E:=HF.out
   rw[if_pos (And.intro q1 q2),if_neg n1,if_neg n2] at E
   have HG:=Aside0.mk E
   clear E HF
   have K1:=Aside0.mk (fun(wr:World) S=>H1.out wr q1 q2 S)
   clear H1 H2 H3 z1
   go_wp2_with fail
   with_reducible refine(K1.out _ S1).mono ?_
   rintro e1 w1 ⟨rfl,S2⟩
   have T1:Aside (SW enc w0 blk off (rot m (m - i+(mid+m - i - m)) (m - i) (mid+m - i - m) d) w1):=S2
   clear S2
   go_wp2
   go_end0
   exact⟨rfl,by rw[HG.out];exact T1.out⟩
  by_cases b2:a < i
  ·by_cases b4:i < mid
   ·by_cases b3:mid+m - i < b
    ·have D1:decide ((i:Int) < (m:Int))=false:=decide_eq_false (by omega)
     have D3:decide ((a:Int) < (i:Int))=true:=decide_eq_true (by omega)
     have D4:decide ((i:Int) < (mid:Int))=true:=decide_eq_true (by omega)
     have D5:decide ((mid:Int) < (mid:Int)+(m:Int) - (i:Int))=false:=decide_eq_false (by omega)
     have nr: ¬ (i < m∧m < mid+m - i):=by omega
     have q3:a < i:=by omega
     have q4:i < mid:=by omega
     have n2: ¬ (mid < mid+m - i∧mid+m - i < b):=by omega
     have E:=HF.out
     rw[if_neg nr,if_pos (And.intro q3 q4),if_neg n2] at E
     have HG:=Aside0.mk E
     clear E HF
     have K2:=Aside0.mk (fun(wr:World) S=>H2.out d wr q3 q4 rfl S)
     have z2:(sym (ltOf cf) f0 a i mid d).size=d.size:=(sym_size _ _ _ _ _ _).trans rfl
     clear H1 H2 H3 z1 z2
     go_wp2_with fail
     with_reducible refine(K2.out _ S1).mono ?_
     rintro e2 w2 ⟨rfl,S2⟩
     have T2:Aside (SW enc w0 blk off (sym (ltOf cf) f0 a i mid d) w2):=S2
     clear S2
     go_wp2
     go_end0
     exact⟨rfl,by rw[HG.out];exact T2.out⟩
    have D1:decide ((i:Int) < (m:Int))=false:=decide_eq_false (by omega)
    have D3:decide ((a:Int) < (i:Int))=true:=decide_eq_true (by omega)
    have D4:decide ((i:Int) < (mid:Int))=true:=decide_eq_true (by omega)
    have D5:decide ((mid:Int) < (mid:Int)+(m:Int) - (i:Int))=false:=decide_eq_false (by omega)
    have nr: ¬ (i < m∧m < mid+m - i):=by omega
    have q3:a < i:=by omega
    have q4:i < mid:=by omega
    have n2: ¬ (mid < mid+m - i∧mid+m - i < b):=by omega
    have E:=HF.out
    rw[if_neg nr,if_pos (And.intro q3 q4),if_neg n2] at E
    have HG:=Aside0.mk E
    clear E HF
    have K2:=Aside0.mk (fun(wr:World) S=>H2.out d wr q3 q4 rfl S)
    have z2:(sym (ltOf cf) f0 a i mid d).size=d.size:=(sym_size _ _ _ _ _ _).trans rfl
    clear H1 H2 H3 z1 z2
    go_wp2_with fail
    with_reducible refine(K2.out _ S1).mono ?_
    rintro e2 w2 ⟨rfl,S2⟩
    have T2:Aside (SW enc w0 blk off (sym (ltOf cf) f0 a i mid d) w2):=S2
    clear S2
    go_wp2
    go_end0
    exact⟨rfl,by rw[HG.out];exact T2.out⟩
   by_cases b3:mid+m - i < b
   ·have D1:decide ((i:Int) < (m:Int))=false:=decide_eq_false (by omega)
    have D3:decide ((a:Int) < (i:Int))=true:=decide_eq_true (by omega)
    have D4:decide ((i:Int) < (mid:Int))=false:=decide_eq_false (by omega)
    have D5:decide ((mid:Int) < (mid:Int)+(m:Int) - (i:Int))=false:=decide_eq_false (by omega)
    have nr: ¬ (i < m∧m < mid+m - i):=by omega
    have n1: ¬ (a < i∧i < mid):=by omega
    have n2: ¬ (mid < mid+m - i∧mid+m - i < b):=by omega
    have E:=HF.out
    rw[if_neg nr,if_neg n1,if_neg n2] at E
    have HG:=Aside0.mk E
    clear E HF;clear H1 H2 H3 z1
    go_wp2
    go_end0
    exact⟨rfl,by rw[HG.out];exact S1.out⟩
   have D1:decide ((i:Int) < (m:Int))=false:=decide_eq_false (by omega)
   have D3:decide ((a:Int) < (i:Int))=true:=decide_eq_true (by omega)
   have D4:decide ((i:Int) < (mid:Int))=false:=decide_eq_false (by omega)
   have D5:decide ((mid:Int) < (mid:Int)+(m:Int) - (i:Int))=false:=decide_eq_false (by omega)
   have nr: ¬ (i < m∧m < mid+m - i):=by omega
   have n1: ¬ (a < i∧i < mid):=by omega
   have n2: ¬ (mid < mid+m - i∧mid+m - i < b):=by omega
   have E:=HF.out
   rw[if_neg nr,if_neg n1,if_neg n2] at E
   have HG:=Aside0.mk E
   clear E HF;clear H1 H2 H3 z1
   go_wp2
   go_end0
   exact⟨rfl,by rw[HG.out];exact S1.out⟩
  by_cases b3:mid+m - i < b
  ·exfalso;omega
  exfalso;omega
end Go.Proofs.Ytefhljhpcpajgaa.F
set_option linter.unusedVariables false
namespace Go.Proofs.Ytefhljhpcpajgaa.F
open Go.Sort Go.Shelf Go.Lib
open Go.RowKit Go.Proofs.YtefhljhpcpajgaaX Go.Proofs.YtefhljhpcpajgaaW.PrintWords Go.Proofs.YtefhljhpcpajgaaW.PrintLast Go.Proofs.YtefhljhpcpajgaaW.PrintMore
open Go.Proofs.Ytefhljhpcpajgaa.Stable
theorem stable_calls {α:Type} [Inhabited α] (enc:α→Value) (cf:α→α→Int) (g:Nat) (cb:Array Value) (blk0 off cap:Nat) (d:Array α) (w0 w:World) (eg: ∀ args w,(callFunc g args).run Try.prog w= .ok (.enter g args) w) (hcmp:CmpLays1 Try.prog g cb enc cf blk0 off d.size w0) (R:Row1 enc w0 blk0 off d) (S:SW enc w0 blk0 off d w) (hsz:d.size < 1152921504606846976)
  (sym_calls: ∀ (f a m b:Nat) (dk:Array α) (w:World),b - a≤f→a < m→m < b→b≤dk.size→d.size=dk.size→SW enc w0 blk0 off dk w→Calls Try.prog 156 #[.slice (some ⟨blk0,off,none⟩) dk.size cap,.int .i64 a,.int .i64 m,.int .i64 b,.func (.func g) #[] cb] w fun e w'=>e= .returned (.tuple #[])∧SW enc w0 blk0 off (sym (ltOf cf) f a m b dk) w'):
  Calls Try.prog 148 #[.slice (some ⟨blk0,off,none⟩) d.size cap,.int .i64 (d.size:Int),.func (.func g) #[] cb] w fun e w'=>e= .returned (.tuple #[])∧SW enc w0 blk0 off (stable (ltOf cf) d.size d) w':=by
 have HC:=Aside0.mk hcmp
 have S0:Aside (SW enc w0 blk0 off d w):=S
 obtain⟨n,hn⟩: ∃ q,q=d.size:=⟨_,rfl⟩
 have HN:=Aside0.mk hn
 have hI: ∀ (a b:Nat) (dk:Array α) (wr:World),a≤b→b≤n→dk.size=n→Aside (SW enc w0 blk0 off dk wr)→Calls Try.prog 155 #[.slice (some ⟨blk0,off,none⟩) n cap,.int .i64 a,.int .i64 b,.func (.func g) #[] cb] wr fun e w'=>e= .returned (.tuple #[])∧SW enc w0 blk0 off (Sort.insertionSort (ltOf cf) dk a b) w':=fun a b dk wr h1 h2 hz S=>by
  have:=Try.insertionSortCmpFunc_s enc cf g cb blk0 off cap a b d dk w0 wr eg HC.out R (by omega) S.out h1 (by omega) (by omega)
  rw[hz] at this
  exact this
 have hY: ∀ (a m b:Nat) (dk:Array α) (wr:World),a < m→m < b→b≤n→dk.size=n→Aside (SW enc w0 blk0 off dk wr)→Calls Try.prog 156 #[.slice (some ⟨blk0,off,none⟩) n cap,.int .i64 a,.int .i64 m,.int .i64 b,.func (.func g) #[] cb] wr fun e w'=>e= .returned (.tuple #[])∧SW enc w0 blk0 off (sym (ltOf cf) n a m b dk) w':=fun a m b dk wr h1 h2 h3 hz S=>by
  have:=sym_calls n a m b dk wr (by omega) h1 h2 (by omega) (by omega) S.out
  rw[hz] at this
  exact this
 have HI:=Aside0.mk hI
 have HY:=Aside0.mk hY
 rw[←hn]
 have hsz2:n < 1152921504606846976:=by omega
 clear hcmp S hI hY sym_calls hn hsz R eg
 go_enter Try.func148,Try.ntmps148
 go_wp2
 go_loopg[7,8] n (fun g1 v7 v8 wr=> ∃ (a f:Nat) (dk:Array α),v7= .int .i64 a∧v8= .int .i64 ((a:Int)+20)∧a≤n∧n < a+20 * f+20∧n≤g1+a∧dk.size=n∧Aside (SW enc w0 blk0 off dk wr)∧Hid (blk (ltOf cf) n (f+1) a dk=blk (ltOf cf) n (n+1) 0 d))
 case atStart=>have:=HN.out;exact⟨0,n,d,by first|rfl|go_num,by first|rfl|go_num,by omega,by omega,by omega,by omega,S0,rfl⟩
 case round=>
  clear S0
  obtain⟨a,f,dk,rfl,rfl,han,hf,hg,hz,S1,HO⟩:=hrel
  by_cases c:a+20≤n
  ·have c':decide ((a:Int)+20≤(n:Int))=true:=decide_eq_true (by omega)
   have e1:(((a+20:Nat):Int))=(a:Int)+20:=by omega
   have hw:IntKind.i64.wrap ((a:Int)+20+20)=(a:Int)+20+20:=by rw[IntKind.wrap_i64];omega
   obtain⟨f,rfl⟩: ∃ q,f=q+1:=⟨f - 1,by omega⟩
   have h1:=HI.out a (a+20) dk wr (by omega) c hz S1
   rw[e1] at h1
   have H1:=Aside0.mk h1
   have HX:Hid (blk (ltOf cf) n (f+1) (a+20) (Sort.insertionSort (ltOf cf) dk a (a+20))=blk (ltOf cf) n (n+1) 0 d):=by
    show _=_
    rw[←HO.out,blk,blk,if_pos c]
    rw[blk]
   have hz1:(Sort.insertionSort (ltOf cf) dk a (a+20)).size=n:=by rw[insertion_size];exact hz
   clear h1 S1 HO
   go_wp2_with fail
   with_reducible refine H1.out.mono ?_
   rintro e1 w1 ⟨rfl,S2⟩
   have T1:Aside (SW enc w0 blk0 off (Sort.insertionSort (ltOf cf) dk a (a+20)) w1):=S2
   clear S2
   go_wp2
   go_roundg (n - (a+20))
   case measure=>omega
   case rel=>exact⟨a+20,f,_,by first|rfl|(congr 1;omega),by first|rfl|(congr 1;omega),by omega,by omega,by omega,hz1,T1,HX⟩
  have c':decide ((a:Int)+20≤(n:Int))=false:=decide_eq_false (by omega)
  have h1:=HI.out a n dk wr han (Nat.le_refl _) hz S1
  have H1:=Aside0.mk h1
  have HX:Hid (Sort.insertionSort (ltOf cf) dk a n=blk (ltOf cf) n (n+1) 0 d):=by
   show _=_
   rw[←HO.out,blk,if_neg c]
  have hz1:(Sort.insertionSort (ltOf cf) dk a n).size=n:=by rw[insertion_size];exact hz
  clear h1 S1 HO
  go_wp2_with fail
  with_reducible refine H1.out.mono ?_
  rintro e1 w1 ⟨rfl,S2⟩
  have T1:Aside (SW enc w0 blk0 off (Sort.insertionSort (ltOf cf) dk a n) w1):=S2
  clear S2 H1
  generalize Sort.insertionSort (ltOf cf) dk a n=d1 at T1 HX hz1
  clear hz c c' hf hg
  go_wp2
  go_loopg[6] n (fun g1 v6 wr=> ∃ (z f:Nat) (dk:Array α),v6= .int .i64 z∧0 < z∧(z≤20∨z < 2 * n)∧n≤z+f∧n≤g1+z∧dk.size=n∧Aside (SW enc w0 blk0 off dk wr)∧Hid (mrgs (ltOf cf) n f z dk=mrgs (ltOf cf) n n 20 d1))
  case atStart=>exact⟨20,n,d1,by first|rfl|go_num,by omega,.inl (Nat.le_refl _),by omega,by omega,hz1,T1,rfl⟩
  case round=>
   clear T1 hz1
   obtain⟨z,f,dk,rfl,hz0,hzb,hf,hg,hz,S1,HO⟩:=hrel
   by_cases c:z < n
   ·have c':decide ((z:Int) < (n:Int))=true:=decide_eq_true (by omega)
    obtain⟨f,rfl⟩: ∃ q,f=q+1:=⟨f - 1,by omega⟩
    have hw1:IntKind.i64.wrap (2 *(z:Int))=2 *(z:Int):=by rw[IntKind.wrap_i64];omega
    have hw2:IntKind.i64.wrap ((z:Int) * 2)=(z:Int) * 2:=by rw[IntKind.wrap_i64];omega
    have HO2:Hid (mrgs (ltOf cf) n f (z * 2) (mrg (ltOf cf) n z (n+1) 0 dk)=mrgs (ltOf cf) n n 20 d1):=by
     show _=_
     rw[←HO.out,mrgs,if_pos c]
    clear HO
    go_wp2
    go_loopg[7,8] n (fun g1 v7 v8 wr=> ∃ (a f:Nat) (de:Array α),v7= .int .i64 a∧v8= .int .i64 ((a:Int)+2 *(z:Int))∧a≤n∧n≤a+f∧n≤g1+a∧de.size=n∧Aside (SW enc w0 blk0 off de wr)∧Hid (mrg (ltOf cf) n z (f+1) a de=mrg (ltOf cf) n z (n+1) 0 dk))
    case atStart=>exact⟨0,n,dk,by first|rfl|go_num,by first|rfl|go_num|(congr 1;omega),by omega,by omega,by omega,hz,S1,rfl⟩
    case round=>
     clear S1
     obtain⟨a,f2,de,rfl,rfl,han,hf2,hg2,hze,S1,HP⟩:=hrel
     have hwa:IntKind.i64.wrap ((a:Int)+(z:Int))=(a:Int)+(z:Int):=by rw[IntKind.wrap_i64];omega
     have ez:((a+z:Nat):Int)=(a:Int)+(z:Int):=by omega
     by_cases c1:a+2 * z≤n
     ·have c1':decide ((a:Int)+2 *(z:Int)≤(n:Int))=true:=decide_eq_true (by omega)
      have hwb:IntKind.i64.wrap ((a:Int)+2 *(z:Int)+2 *(z:Int))=(a:Int)+2 *(z:Int)+2 *(z:Int):=by rw[IntKind.wrap_i64];omega
      obtain⟨f2,rfl⟩: ∃ q,f2=q+1:=⟨f2 - 1,by omega⟩
      have h1:=HY.out a (a+z) (a+2 * z) de wr (by omega) (by omega) c1 hze S1
      rw[ez,show((a+2 * z:Nat):Int)=(a:Int)+2 *(z:Int) by omega] at h1
      have H1:=Aside0.mk h1
      have HX:Hid (mrg (ltOf cf) n z (f2+1) (a+2 * z) (sym (ltOf cf) n a (a+z) (a+2 * z) de)=mrg (ltOf cf) n z (n+1) 0 dk):=by
       show _=_
       rw[←HP.out]
       conv=>rhs;rw[mrg,if_pos c1]
      have hz1:(sym (ltOf cf) n a (a+z) (a+2 * z) de).size=n:=by rw[sym_size];exact hze
      clear h1 S1 HP
      go_wp2_with fail
      with_reducible refine H1.out.mono ?_
      rintro e1 w1 ⟨rfl,S2⟩
      have T1:Aside (SW enc w0 blk0 off (sym (ltOf cf) n a (a+z) (a+2 * z) de) w1):=S2
      clear S2
      go_wp2
      go_roundg (n - (a+2 * z))
      case measure=>omega
      case rel=>exact⟨a+2 * z,f2,_,by first|rfl|(congr 1;omega),by first|rfl|(congr 1;omega),by omega,by omega,by omega,hz1,T1,HX⟩
     have c1':decide ((a:Int)+2 *(z:Int)≤(n:Int))=false:=decide_eq_false (by omega)
     by_cases c2:a+z < n
     ·have c2':decide ((a:Int)+(z:Int) < (n:Int))=true:=decide_eq_true (by omega)
      have h1:=HY.out a (a+z) n de wr (by omega) (by omega) (Nat.le_refl _) hze S1
      rw[ez] at h1
      have H1:=Aside0.mk h1
      have HX:Hid (sym (ltOf cf) n a (a+z) n de=mrg (ltOf cf) n z (n+1) 0 dk):=by
       show _=_
       rw[←HP.out,mrg,if_neg c1,if_pos c2]
      have hz1:(sym (ltOf cf) n a (a+z) n de).size=n:=by rw[sym_size];exact hze
      clear h1 S1 HP
      go_wp2_with fail
      with_reducible refine H1.out.mono ?_
      rintro e1 w1 ⟨rfl,S2⟩
      have T1:Aside (SW enc w0 blk0 off (sym (ltOf cf) n a (a+z) n de) w1):=S2
      clear S2
      go_wp2
      go_roundg (n - z * 2)
      case measure=>omega
      case rel=>exact⟨z * 2,f,_,by first|rfl|(congr 1;omega),by omega,by omega,by omega,by omega,hz1,T1,(by show _=_;rw[HX.out];exact HO2.out)⟩
     have c2':decide ((a:Int)+(z:Int) < (n:Int))=false:=decide_eq_false (by omega)
     have HX:Hid (de=mrg (ltOf cf) n z (n+1) 0 dk):=by
      show _=_
      rw[←HP.out,mrg,if_neg c1,if_neg c2]
     clear HP
     go_wp2
     go_roundg (n - z * 2)
     case measure=>omega
     case rel=>exact⟨z * 2,f,_,by first|rfl|(congr 1;omega),by omega,by omega,by omega,by omega,hze,S1,(by show _=_;rw[HX.out];exact HO2.out)⟩
   have c':decide ((z:Int) < (n:Int))=false:=decide_eq_false (by omega)
   have HX2:Hid (dk=mrgs (ltOf cf) n n 20 d1):=by
    show _=_
    rw[←HO.out]
    cases f with
    |zero=>rfl
    |succ f=>rw[mrgs,if_neg c]
   clear HO
   go_wp2
   go_end0
   exact⟨rfl,by unfold stable;rw[←HX.out,←HX2.out];exact S1.out⟩
end Go.Proofs.Ytefhljhpcpajgaa.F
set_option linter.unusedVariables false
namespace Go.Proofs.Ytefhljhpcpajgaa.Q
open Go.RowKit Go.Proofs.YtefhljhpcpajgaaW.PrintWords Go.Proofs.YtefhljhpcpajgaaW.PrintLast Go.Proofs.YtefhljhpcpajgaaW.PrintMore
theorem Ev.ite {α:Type} {c:Prop} [Decidable c] {a b:Nat→Option α} {r:α} (h1:c→Ev a r) (h2: ¬ c→Ev b r):Ev (fun k=>if c then a k else b k) r:=by
  by_cases h:c
  · simp only[if_pos h];exact h1 h
  simp only[if_neg h];exact h2 h
theorem Ev.pos {α:Type} {c:Prop} [Decidable c] {a b:Nat→Option α} {r:α} (h:c) (h1:Ev a r):Ev (fun k=>if c then a k else b k) r:=by
  simp only[if_pos h];exact h1
theorem Ev.neg {α:Type} {c:Prop} [Decidable c] {a b:Nat→Option α} {r:α} (h: ¬ c) (h1:Ev b r):Ev (fun k=>if c then a k else b k) r:=by
  simp only[if_neg h];exact h1
theorem Ev.ok {α:Type} {a b:α} (h:a=b):Ev (fun _=>some a) b:=⟨0,fun _ _=>by rw[h]⟩
theorem Ev.const {α:Type} {o:Option α} {r:α} (h:o=some r):Ev (fun _=>o) r:=⟨0,fun _ _=>h⟩
theorem Ev.bindc {α β:Type} {o:Option α} {f:Nat→α→Option β} {a:α} {r:β} (h:o=some a) (k:Ev (fun n=>f n a) r):Ev (fun n=>o.bind (f n)) r:=by
  subst h
  exact k
theorem Ev.eq {α:Type} {g:Nat→Option α} {a b:α} (h:Ev g a) (e:a=b):Ev g b:=e ▸ h
theorem wrap_eq {x:Int} (h0: -9223372036854775808≤x) (h1:x≤9223372036854775807):wrap64 x=x:=by
  unfold wrap64;omega
theorem u64_eq {x:Int} (h0:0≤x) (h1:x < 18446744073709551616):IntKind.u64.wrap x=x:=by
  simp[IntKind.wrap,IntKind.signed,IntKind.bits];omega
theorem rd_nat {l:List Int} {i:Nat} (h:i < l.length):rd l (i:Int)=l[i] :=by
  unfold rd;simp[List.getD_eq_getElem?_getD,h]
theorem rdOf_nat {α:Type} {d:α} {l:List α} {i:Nat} (h:i < l.length):rdOf d l (i:Int)=l[i] :=by
  unfold rdOf;simp[List.getD_eq_getElem?_getD,h]
theorem drop_cons {α:Type} {l:List α} {i:Nat} (h:i < l.length):l.drop i=l[i] ::l.drop (i+1):=List.drop_eq_getElem_cons h
theorem bytes_ext {a b:ByteArray} :a.toList=b.toList↔a=b:=by
  constructor
  · intro h
    rw[ByteArray.toList_eq,ByteArray.toList_eq] at h
    cases a;cases b
    simpa [Array.toList_inj] using h
  rintro rfl;rfl
end Go.Proofs.Ytefhljhpcpajgaa.Q
set_option linter.unusedVariables false
namespace Go.Proofs.Ytefhljhpcpajgaa.Q
open Go.RowKit
def bef (r:Nat→Int) (j i:Nat):Bool:=decide (r j > r i)||(decide (r j=r i)&&decide (j < i))
theorem bef_iff {r:Nat→Int} {j i:Nat} :bef r j i=true↔r j > r i∨(r j=r i∧j < i):=by simp[bef]
theorem bef_irrefl (r:Nat→Int) (i:Nat):bef r i i=false:=by simp[bef]
theorem bef_trans {r:Nat→Int} {a b c:Nat} (h:bef r a b=true) (g:bef r b c=true):bef r a c=true:=by
  rw[bef_iff] at *;omega
theorem bef_total (r:Nat→Int) {a b:Nat} (h:a≠b):bef r a b=true∨bef r b a=true:=by
  rw[bef_iff,bef_iff];omega
theorem bef_asymm {r:Nat→Int} {a b:Nat} (h:bef r a b=true):bef r b a=false:=by
  cases e:bef r b a with
  |false=>rfl
  |true=>have:=bef_trans h e;rw[bef_irrefl] at this;cases this
def rank (r:Nat→Int) (n i:Nat):Nat:=(List.range n).countP (fun j=>bef r j i)
theorem countP_lt {α:Type} {p q:α→Bool} {l:List α} (h: ∀ x ∈ l,p x=true→q x=true) {a:α} (ha:a ∈ l) (hp:p a=false) (hq:q a=true):l.countP p < l.countP q:=by
  induction l with
  |nil=>cases ha
  |cons x l ih=>
    have hl:l.countP p≤l.countP q:=List.countP_mono_left (fun y hy=>h y (List.mem_cons_of_mem _ hy))
    rcases List.mem_cons.1 ha with rfl|ha
    · rw[List.countP_cons_of_neg (by simp[hp]),List.countP_cons_of_pos hq];omega
    have:=ih (fun y hy=>h y (List.mem_cons_of_mem _ hy)) ha
    by_cases hx:p x=true
    · rw[List.countP_cons_of_pos hx,List.countP_cons_of_pos (h x List.mem_cons_self hx)];omega
    rw[List.countP_cons_of_neg hx]
    by_cases hx2:q x=true
    · rw[List.countP_cons_of_pos hx2];omega
    rw[List.countP_cons_of_neg hx2];omega
theorem rank_lt {r:Nat→Int} {n a b:Nat} (ha:a < n) (h:bef r a b=true):rank r n a < rank r n b:=
  countP_lt (fun x _ hx=>bef_trans hx h) (List.mem_range.2 ha) (bef_irrefl r a) h
theorem rank_inj {r:Nat→Int} {n a b:Nat} (ha:a < n) (hb:b < n) (h:rank r n a=rank r n b):a=b:=by
  apply Classical.byContradiction
  intro hne
  rcases bef_total r hne with g|g
  · have:=rank_lt ha g;omega
  have:=rank_lt hb g;omega
theorem rank_bef {r:Nat→Int} {n a b:Nat} (ha:a < n) (hb:b < n):rank r n a < rank r n b↔bef r a b=true:=by
  constructor
  · intro h
    apply Classical.byContradiction
    intro hn
    by_cases e:a=b
    · subst e;omega
    rcases bef_total r e with g|g
    · exact hn g
    have:=rank_lt hb g;omega
  exact rank_lt ha
theorem rank_next {r:Nat→Int} {n t k:Nat} (hc:(List.range n).countP (fun i=>decide (rank r n i < t))=t) (hk:k < n) (hkt:t≤rank r n k) (hm: ∀ i,i < n→t≤rank r n i→i≠k→bef r k i=true):rank r n k=t:=by
  rw[←hc]
  unfold rank
  refine List.countP_congr fun j hj=>?_
  have hj:=List.mem_range.1 hj
  rw[decide_eq_true_eq]
  change bef r j k=true↔rank r n j < t
  constructor
  · intro h
    apply Classical.byContradiction
    intro hn
    by_cases e:j=k
    · subst e;rw[bef_irrefl] at h;cases h
    have:=hm j hj (by omega) e
    rw[bef_asymm h] at this;cases this
  intro h
  exact(rank_bef hj hk).1 (by omega)
theorem countP_succ {n t k:Nat} {f:Nat→Nat} (hf: ∀ a b,a < n→b < n→f a=f b→a=b) (hk:k < n) (hfk:f k=t):(List.range n).countP (fun i=>decide (f i < t+1))=(List.range n).countP (fun i=>decide (f i < t))+1:=by
  have key: ∀ m,m≤n→(List.range m).countP (fun i=>decide (f i < t+1))=(List.range m).countP (fun i=>decide (f i < t))+(if k < m then 1 else 0):=by
    intro m
    induction m with
    |zero=>intro _;simp
    |succ m ih=>
      intro hm
      have ih:=ih (by omega)
      rw[List.range_succ,List.countP_append,List.countP_append,ih]
      simp only[List.countP_cons,List.countP_nil]
      by_cases e:m=k
      · subst e
        rw[hfk]
        simp
      have h1:f m≠t:=fun h=>e (hf m k (by omega) hk (by omega))
      have h2:(f m < t+1)↔(f m < t):=by omega
      simp only[h2]
      (repeat' split) <;> omega
  rw[key n (Nat.le_refl _),if_pos hk]
theorem exists_first (r:Nat→Int) (p:Nat→Prop) [DecidablePred p] : ∀ n,(∃ i,i < n∧p i)→∃ k,k < n∧p k∧∀ i,i < n→p i→i≠k→bef r k i=true:=by
  intro n
  induction n with
  |zero=>rintro⟨i,h,_⟩;omega
  |succ n ih=>
    rintro⟨i,hi,hp⟩
    by_cases he: ∃ i,i < n∧p i
    · obtain⟨k,hk,hpk,hm⟩:=ih he
      by_cases hn:p n∧bef r n k=true
      · refine⟨n,by omega,hn.1,fun j hj hpj hne=>?_⟩
        by_cases e:j=k
        · subst e;exact hn.2
        exact bef_trans hn.2 (hm j (by omega) hpj e)
      refine⟨k,by omega,hpk,fun j hj hpj hne=>?_⟩
      by_cases e:j=n
      · subst e
        rcases bef_total r hne with g|g
        · exact absurd ⟨hpj,g⟩ hn
        exact g
      exact hm j (by omega) hpj hne
    have:i=n:=by
      apply Classical.byContradiction
      intro h
      exact he ⟨i,by omega,hp⟩
    subst this
    refine⟨i,hi,hp,fun j hj hpj hne=>absurd ⟨j,by omega,hpj⟩ he⟩
theorem rank_count (r:Nat→Int) (n:Nat): ∀ t,t≤n→(List.range n).countP (fun i=>decide (rank r n i < t))=t:=by
  intro t
  induction t with
  |zero=>intro _;simp
  |succ t ih=>
    intro ht
    have hc:=ih (by omega)
    have hex: ∃ i,i < n∧t≤rank r n i:=by
      apply Classical.byContradiction
      intro hn
      have:(List.range n).countP (fun i=>decide (rank r n i < t))=(List.range n).length:=by
        rw[List.countP_eq_length]
        intro x hx
        have hx:=List.mem_range.1 hx
        rw[decide_eq_true_eq]
        apply Classical.byContradiction
        intro h
        exact hn ⟨x,hx,by omega⟩
      rw[hc,List.length_range] at this
      omega
    obtain⟨k,hk,hkt,hm⟩:=exists_first r (fun i=>t≤rank r n i) n hex
    have e:=rank_next hc hk hkt hm
    rw[countP_succ (fun a b ha hb=>rank_inj ha hb) hk e,hc]
theorem rank_sorted {r:Nat→Int} {n:Nat} {l:List Nat} (hp:l.Perm (List.range n)) (hs:l.Pairwise (fun a b=>bef r a b=true)) {p:Nat} (h:p < l.length):rank r n l[p] =p:=by
  have hl:l.length=n:=by rw[hp.length_eq,List.length_range]
  have e:rank r n l[p] =l.countP (fun j=>bef r j l[p]):=(hp.countP_eq _).symm
  rw[e]
  have hsplit:l=l.take p++l.drop p:=(List.take_append_drop p l).symm
  have h1:(l.take p).countP (fun j=>bef r j l[p])=(l.take p).length:=by
    rw[List.countP_eq_length]
    intro x hx
    obtain⟨j,hj,rfl⟩:=List.mem_iff_getElem.1 hx
    rw[List.length_take] at hj
    rw[List.getElem_take]
    exact List.pairwise_iff_getElem.1 hs j p (by omega) h (by omega)
  have h2:(l.drop p).countP (fun j=>bef r j l[p])=0:=by
    rw[List.countP_eq_zero]
    intro x hx
    obtain⟨j,hj,rfl⟩:=List.mem_iff_getElem.1 hx
    rw[List.length_drop] at hj
    rw[List.getElem_drop]
    rcases Nat.eq_zero_or_pos j with h0|h0
    · subst h0;simp[bef_irrefl]
    rw[bef_asymm (List.pairwise_iff_getElem.1 hs p (p+j) h (by omega) (by omega))]
    decide
  have h3:l.countP (fun j=>bef r j l[p])=(l.take p++l.drop p).countP (fun j=>bef r j l[p]):=by rw[List.take_append_drop]
  rw[h3,List.countP_append,h1,h2,List.length_take]
  omega
end Go.Proofs.Ytefhljhpcpajgaa.Q
set_option linter.unusedVariables false
namespace Go.Proofs.Ytefhljhpcpajgaa.F
open Go.Sort Go.Shelf Go.Lib
open Go.RowKit Go.Proofs.YtefhljhpcpajgaaX Go.Proofs.YtefhljhpcpajgaaW.PrintWords Go.Proofs.YtefhljhpcpajgaaW.PrintLast Go.Proofs.YtefhljhpcpajgaaW.PrintMore
open Go.Proofs.Ytefhljhpcpajgaa.Stable
theorem sym_calls {α:Type} [Inhabited α] (enc:α→Value) (cf:α→α→Int) (g:Nat) (cb:Array Value) (blk off cap:Nat) (d0:Array α) (w0:World) (eg: ∀ args w,(callFunc g args).run Try.prog w= .ok (.enter g args) w) (hcmp:CmpLays1 Try.prog g cb enc cf blk off d0.size w0) (R:Row1 enc w0 blk off d0) (hsz:d0.size < 4611686018427387904):
    ∀ (f a m b:Nat) (d:Array α) (w:World),b - a≤f→a < m→m < b→b≤d.size→d0.size=d.size→SW enc w0 blk off d w→Calls Try.prog 156 #[.slice (some ⟨blk,off,none⟩) d.size cap,.int .i64 a,.int .i64 m,.int .i64 b,.func (.func g) #[] cb] w fun e w'=>e= .returned (.tuple #[])∧SW enc w0 blk off (sym (ltOf cf) f a m b d) w'
  |0,a,m,b,d,w,h0,h1,h2,_,_,_=>by omega
  |f+1,a,m,b,d,w,h0,h1,h2,hb,hs,S=>by
    by_cases e1:m - a=1
    · have:=sym_up enc cf g cb blk off cap a m b d0 d w0 w eg hcmp R hs S h1 (by omega) h2 hb (by omega)
      rw[sym,if_pos e1]
      exact this
    by_cases e2:b - m=1
    · have:=sym_down enc cf g cb blk off cap a m b d0 d w0 w eg hcmp R hs S h1 (by omega) h2 (by omega) hb (by omega)
      rw[sym,if_neg e1,if_pos e2]
      exact this
    have ih:=sym_calls enc cf g cb blk off cap d0 w0 eg hcmp R hsz f
    by_cases c:(a+b) / 2 < m
    · exact sym_midA enc cf g cb blk off cap a m b ((a+b) / 2) f d0 d w0 w eg hcmp R hs S (by omega) (by omega) rfl c hb (by omega) (fun a m b d w h1 h2 h0 hb hs S=>ih a m b d w h0 h1 h2 hb hs S) h0
    exact sym_midB enc cf g cb blk off cap a m b ((a+b) / 2) f d0 d w0 w eg hcmp R hs S (by omega) (by omega) rfl (by omega) hb (by omega) (fun a m b d w h1 h2 h0 hb hs S=>ih a m b d w h0 h1 h2 hb hs S) h0
theorem sort_stable {α:Type} [Inhabited α] (enc:α→Value) (cf:α→α→Int) (g:Nat) (cb:Array Value) (blk off cap:Nat) (d:Array α) (w0 w:World) (eg: ∀ args w,(callFunc g args).run Try.prog w= .ok (.enter g args) w) (hcmp:CmpLays1 Try.prog g cb enc cf blk off d.size w0) (R:Row1 enc w0 blk off d) (S:SW enc w0 blk off d w) (hsz:d.size < 1152921504606846976):
  Calls Try.prog 138 #[.slice (some ⟨blk,off,none⟩) d.size cap,.func (.func g) #[] cb] w fun e w'=>e= .returned (.tuple #[])∧SW enc w0 blk off (stable (ltOf cf) d.size d) w':=by
 have hC:=fun(wr:World) (S:SW enc w0 blk off d wr)=>stable_calls enc cf g cb blk off cap d w0 wr eg hcmp R S hsz (fun f a m b dk w h0 h1 h2 hb hs S=>sym_calls enc cf g cb blk off cap d w0 eg hcmp R (by omega) f a m b dk w h0 h1 h2 hb hs S)
 have HC:=Aside0.mk hC
 have S1:Aside (SW enc w0 blk off d w):=S
 clear hC hcmp S
 go_enter Try.func138,Try.ntmps138
 go_wp2_with fail
 refine(HC.out _ S1.out).mono ?_
 rintro e w' ⟨rfl,S2⟩
 have S3:Aside (SW enc w0 blk off (stable (ltOf cf) d.size d) w'):=S2
 clear S2
 go_wp2
 go_end0
 exact⟨rfl,S3.out⟩
def byArr (l:List Int):Array Nat:=stable (ltK (keyOf l)) l.length (Array.range l.length)
def byPins (l:List Int):List Int:=(byArr l).toList.map fun i=> ((pinN l.length i:Nat):Int)
theorem byArr_size (l:List Int):(byArr l).size=l.length:=by unfold byArr stable;rw[mrgs_size,blk_size,Array.size_range]
def upTo (n i:Nat):List Int:=(List.range n).map fun j=>if j < i then(j:Int)else 0
theorem upTo_zero (n:Nat):upTo n 0=List.replicate n 0:=by
  unfold upTo
  apply List.ext_getElem
  · simp
  intro k h1 h2;simp
theorem upTo_set (n i:Nat) (h:i < n):(upTo n i).set i (i:Int)=upTo n (i+1):=by
  unfold upTo
  apply List.ext_getElem
  · simp
  intro k h1 h2
  rw[List.getElem_set]
  simp only[List.getElem_map,List.getElem_range]
  by_cases e:i=k
  · subst e;rw[if_pos rfl,if_pos (by omega)]
  rw[if_neg e]
  by_cases c:k < i
  · rw[if_pos c,if_pos (by omega)]
  rw[if_neg c,if_neg (by omega)]
theorem upTo_len (n i:Nat):(upTo n i).length=n:=by unfold upTo;simp
theorem putRow_pin (l:List Int) (w:World) (g:Nat) (d:Array Nat):putRow (encP l.length) w g 0 d=putRow (Value.int .i64) w g 0 (d.toList.map fun i=> ((pinN l.length i:Nat):Int)).toArray:=by
  have e:putCells (encP l.length) 0 d=putCells (Value.int .i64) 0 (d.toList.map fun i=> ((pinN l.length i:Nat):Int)).toArray:=by
    funext cur
    unfold putCells
    congr 1
    funext k x
    have hz:(d.toList.map fun i=> ((pinN l.length i:Nat):Int)).toArray.size=d.size:=by simp
    rw[hz]
    by_cases c:0≤k∧k < 0+d.size
    · rw[if_pos c,if_pos c]
      have h1:k - 0 < d.size:=by omega
      rw[getElem!_pos d (k - 0) h1,getElem!_pos _ (k - 0) (by rw[hz];exact h1)]
      simp[encP]
    rw[if_neg c,if_neg c]
  unfold putRow
  rw[e]
theorem holds_pin {w:World} {g:Nat} {cur:Array Value} {e:TypeId} (l:List Int) (hb:w.heap[g]? =some (.cells cur e (0,0))) (ht:cur.toList.take l.length=(upTo l.length l.length).map (Value.int .i64)):Holds (encP l.length) w g 0 (Array.range l.length):=by
  have h:=holds_of_blockI (ss:=upTo l.length l.length) hb (by rw[upTo_len];exact ht)
  intro j hj
  have hj':j < l.length:=by simpa using hj
  have:=h j (by simpa [upTo_len] using hj')
  refine⟨?_,this.2⟩
  rw[this.1,getElem!_pos _ j (by simpa [upTo_len] using hj'),getElem!_pos _ j hj]
  simp[upTo,encP,pin_of hj',hj']
theorem byPins_len (l:List Int):(byPins l).length=l.length:=by
  unfold byPins;rw[List.length_map,Array.length_toList,byArr_size]
open Go.Proofs.Ytefhljhpcpajgaa.Q in
def byList (l:List Int):List Int:=(List.range l.length).map fun p=> ((((List.range l.length).find? fun i=>rank (fun j=>l.getD j 0) l.length i==p).getD 0:Nat):Int)
open Go.Proofs.Ytefhljhpcpajgaa.Q in
theorem byPins_is (l:List Int):byPins l=byList l:=by
  have hr0:(Array.range l.length).toList=List.range l.length:=by simp
  have sp:=stable_spec (fun x=>x) (keyOf l) l.length (Array.range l.length) (by simp) (fun i hi=>by rw[getElem!_pos _ i (by simpa using hi)];simp)
  have hz:(byArr l).size=l.length:=byArr_size l
  have hL: ∃ L,L=(byArr l).toList:=⟨_,rfl⟩
  obtain⟨L,hL⟩:=hL
  have hp:L.Perm (List.range l.length):=by
    have:=sp.1.2.2
    rw[show((Array.range l.length).extract 0 l.length)=Array.range l.length by simp,hr0] at this
    rw[hL]
    refine List.Perm.trans ?_ this
    rw[show(stable (ltK (keyOf l)) l.length (Array.range l.length)).extract 0 l.length=byArr l by
      show(byArr l).extract 0 l.length=byArr l
      rw[←hz];simp]
  have hll:L.length=l.length:=by rw[hL,Array.length_toList,hz]
  have hs:L.Pairwise (fun a b=>bef (keyOf l) a b=true):=by
    rw[List.pairwise_iff_getElem]
    intro i j hi hj hij
    have:=sp.2 i j (Nat.zero_le _) hij (by omega)
    have e: ∀ q (hq:q < L.length),L[q] =(stable (ltK (keyOf l)) l.length (Array.range l.length))[q]! :=fun q hq=>by
      subst hL
      rw[getElem!_pos _ q (show q < (byArr l).size by simpa using hq)]
      rw[Array.getElem_toList]
      rfl
    rw[e i hi,e j hj,bef_iff]
    unfold RK at this
    omega
  have hk: ∀ i,rank (keyOf l) l.length i=rank (keyOf l) l.length i:=fun _=>rfl
  have hrk: ∀ i,i < l.length→rank (keyOf l) l.length i=rank (fun j=>l.getD j 0) l.length i:=fun i hi=>by
    unfold rank
    refine List.countP_congr fun j hj=>?_
    have hj:=List.mem_range.1 hj
    rw[bef_iff,bef_iff]
    unfold keyOf
    rw[pin_of hi,pin_of hj]
  unfold byPins byList
  rw[←hL]
  apply List.ext_getElem
  · simp[hll]
  intro p h1 h2
  have hpl:p < L.length:=by simpa using h1
  simp only[List.getElem_map,List.getElem_range]
  have hm:L[p] < l.length:=List.mem_range.1 (hp.mem_iff.1 (List.getElem_mem hpl))
  have hrp:=rank_sorted hp hs hpl
  rw[pin_of hm]
  rw[hrk _ hm] at hrp
  congr 1
  cases hf:(List.range l.length).find? (fun i=>rank (fun j=>l.getD j 0) l.length i==p)with
  |none=>
    exact absurd (show(rank (fun j=>l.getD j 0) l.length L[p] ==p)=true by rw[hrp];exact beq_self_eq_true p) (List.find?_eq_none.1 hf L[p] (List.mem_range.2 hm))
  |some i=>
    have hi1:=List.find?_some hf
    have hi2:=List.mem_range.1 (List.mem_of_find?_eq_some hf)
    have hi3:rank (fun j=>l.getD j 0) l.length i=p:=by simpa using hi1
    exact(rank_inj hi2 hm (hi3.trans hrp.symm)).symm
def byF (a0:Int) (l1_0_0:List Int):Option (List Int):=if a0=(l1_0_0.length:Int)∧0 < l1_0_0.length∧l1_0_0.length < 35184372088832 then some (byList l1_0_0)else none
theorem by_calls (a0:Int) (g1_0:Nat) (A1_0_0:Option Addr) (c1_0_0:Nat) (l1_0_0:List Int) (r:List Int) (w:World) (hk1_0:w.heap[g1_0]? =some (.cells #[.slice A1_0_0 l1_0_0.length c1_0_0] 22 (0,0))) (hr1_0_0:Kd.C (Kd.int .i64) w A1_0_0 l1_0_0.length l1_0_0) (hc1_0_0:l1_0_0.length≤c1_0_0) (h:byF a0 l1_0_0=some r):
  Calls Try.prog 108 #[.int .i64 a0,.func (.func 109) #[] #[.pointer (some ⟨g1_0,0,none⟩)]] w fun e w'=> ∃ v0_:Value,e= .returned (v0_)∧Kd.R (Kd.int .i64) 3 w' w.heap.size (fun _=>True) v0_ r∧Below w.heap.size w w':=by
 unfold byF at h
 by_cases hg:a0=(l1_0_0.length:Int)∧0 < l1_0_0.length∧l1_0_0.length < 35184372088832
 case neg=>rw[if_neg hg] at h;cases h
 rw[if_pos hg] at h
 obtain⟨rfl,hp,hm⟩:=hg
 have hrr:=(Option.some.inj h).symm
 have HRR:=Aside0.mk hrr
 obtain⟨n,hn⟩: ∃ q,q=l1_0_0.length:=⟨_,rfl⟩
 have hp0:(0:Int)≤(l1_0_0.length:Int):=by omega
 have hp1:((l1_0_0.length:Int)).toNat * 8≤281474976710656:=by omega
 have HK:=Aside0.mk hk1_0
 have HR:=Aside0.mk hr1_0_0
 have HP:=Aside0.mk hp
 have HM:=Aside0.mk hm
 have HB0:=Aside0.mk (Below.refl w.heap.size w)
 obtain⟨WB,hWB⟩: ∃ x,x=(w.alloc (.cells #[(.func (.func 109) #[] #[.pointer (some ⟨g1_0,0,none⟩)] :Value)] 131)):=⟨_,rfl⟩
 have HX:=Aside0.mk hWB
 have HY:Aside0 (WB.cell? ⟨w.heap.size,0,none⟩=some (.func (.func 109) #[] #[.pointer (some ⟨g1_0,0,none⟩)] :Value)∧Below w.heap.size w WB∧WB.heap.size=w.heap.size+1):=⟨by rw[hWB];exact⟨by simp,below_alloc (Below.refl _ _) _,by simp⟩⟩
 have HN:=Aside0.mk hn
 clear h hrr hk1_0 hr1_0_0 hc1_0_0 hp hm hWB
 rw[←hn]
 rw[←hn] at hp0 hp1
 have HL:Aside0 ((List.replicate ((n:Int)).toNat 0:List Int)=upTo n 0):=⟨by rw[upTo_zero,Int.toNat_natCast]⟩
 clear hn
 go_enter Try.func108,Try.ntmps108
 go_wp2_with (first|((with_reducible refine gate_dst (N:=8) rfl ?_);refine Kd.R_make (Kd.int .i64) (w0:=(w.alloc (.cells #[(.func (.func 109) #[] #[.pointer (some ⟨g1_0,0,none⟩)] :Value)] 131))) ((w.alloc (.cells #[(.func (.func 109) #[] #[.pointer (some ⟨g1_0,0,none⟩)] :Value)] 131))).heap.size 3 rfl (N:=8) rfl 22 _ _ rfl (n:Int) rfl rfl Try.underlying22 (.int .i64 0) 8 info3 rfl (by decide) (by omega) 0 (ok:=fun _=>True) (okp:=fun _=>True) rfl (fun _ hk=>hk) trivial hp0 hp1 (Below.refl _ _) (Nat.le_refl _) ?_;intro v102 w4 ho5 hb hg_ hnew_;clear hg_ hnew_;rw[←HX.out] at hb ho5;rw[HL.out] at ho5;have HO:=Aside0.mk ho5;have HB:=Aside0.mk hb;clear ho5 hb;obtain⟨Ao6,co6,eo6⟩:=Kd.R_slice HO.out;rw[upTo_len] at eo6;subst eo6))
 go_loopg[11] n (fun g1 v11 w'=> ∃ (i:Nat),v11= .int .i64 i∧i≤n∧n≤g1+i∧Aside0 (Kd.R (Kd.int .i64) 3 w' WB.heap.size (fun _=>True) (.slice Ao6 n co6) (upTo n i))∧Aside0 (Below WB.heap.size WB w'))
 case atStart=>exact⟨0,by first|rfl|go_num,by omega,by omega,⟨qR_ HO.out⟩,⟨qB⟩⟩
 case round=>
  clear HO HB HL hp0 hp1
  obtain⟨i,rfl,hin,hg1,HO,HB⟩:=hrel
  by_cases hlt:i < n
  ·have hltz:decide ((i:Int) < (n:Int))=true:=decide_eq_true (by omega)
   have hwr:IntKind.i64.wrap ((i:Int)+1)=(i:Int)+1:=by have:=HM.out;have:=HN.out;rw[IntKind.wrap_i64];omega
   have p10:0≤(i:Int):=by omega
   have q10:(i:Int) < ((upTo n i).length:Int):=by rw[upTo_len];omega
   have HO1:Kd.R (Kd.int .i64) 3 wr WB.heap.size (fun _=>True) (.slice Ao6 (upTo n i).length co6) (upTo n i):=by rw[upTo_len];exact HO.out
   obtain⟨go10,co10,eo10,gb10,gl10,cl10,HG10⟩:=Kd.R_form HO1 (by rw[upTo_len];omega)
   (first|cases eo10|(injection eo10 with ea_ en_ ec_;(first|subst ea_|(injection ea_ with ea_;subst ea_));subst ec_;clear en_))
   have GB10:=Aside0.mk gb10
   clear gb10 gl10 HG10
   obtain⟨hx10_0,hf10_0⟩:=Kd.R_celln 0 HO1 (i:Int) p10 q10
   rw[upTo_len] at q10
   replace p10:=eq_true p10
   replace q10:=eq_true q10
   have HP11:=Kd.R_putg HO1 (i:Int) (i:Int)
   have HQ:Aside0 ((upTo n i).set ((i:Int)).toNat (i:Int)=upTo n (i+1)):=⟨by rw[Int.toNat_natCast];exact upTo_set n i hlt⟩
   rw[HQ.out,upTo_len] at HP11
   simp only[Int.toNat_natCast] at HP11 hx10_0 hf10_0
   clear HO1
   go_wp2_with (first|((with_reducible refine gate_store (t:=3) (p:=17) rfl ?_);refine store_event (t:=3) (p:=17) (v:=?vo_w12) (w1:=(wr.setCell ⟨go10,i,none⟩ (.int .i64 (i:Int)))) ?hg ?ho ?hn ?hr ?_;(case ho=>rfl);(case hg=>rfl);(case hn=>rfl);(case hr=>first|(go_simp;done)|(go_simp;rfl));intro w12 hw;have hg:wr.grownBy w12 (some go10):=(by rw[hw];exact HP11.2);have hp_:Kd.R (Kd.int .i64) 3 w12 WB.heap.size (fun _=>True) (.slice (some ⟨go10,0,none⟩) n co6) (upTo n (i+1)):=(by rw[hw];exact HP11.1);clear HP11;have n0_:=Aside0.mk (hp_);have n1_:=Aside0.mk ((by rw[hw];exact below_set (HB.out) GB10.out:Below WB.heap.size WB w12));clear HO HB;have HO:=n0_;have HB:=n1_;clear n0_ n1_ hg hw hp_))
   go_roundg (n - (i+1))
   case measure=>omega
   case rel=>exact⟨i+1,by first|rfl|(congr 1;omega),by omega,by omega,⟨qR_ HO.out⟩,⟨qB⟩⟩
  have hltz:decide ((i:Int) < (n:Int))=false:=decide_eq_false (by omega)
  obtain rfl:i=n:=by omega
  have hN:=HN.out
  have hl0:=HP.out
  have hlm:=HM.out
  have ho:=Kd.own_of_R HO.out
  obtain⟨gb,cap,cur,hv,hbase,hheap,h1,h2,h3,h4⟩: ∃ gb cap cur,Value.slice Ao6 i co6= .slice (some ⟨gb,0,none⟩) (upTo i i).length cap∧WB.heap.size≤gb∧wr.heap[gb]? =some (.cells cur 3 (0,0))∧(upTo i i).length≤cap∧cap≤maxLen∧cur.size=cap * 1∧cur.toList.take ((upTo i i).length * 1)=encs (Value.int .i64) (upTo i i):=by
   rcases ho.2 with⟨_,hz⟩|h
   ·rw[upTo_len] at hz;omega
   exact h
  rw[upTo_len] at hv h1 h4
  injection hv with ea_ en_ ec_
  subst ea_ ec_
  have eN:i=l1_0_0.length:=hN
  have hh:=holds_pin l1_0_0 hheap (by rw[←eN];rw[Nat.mul_one] at h4;exact h4)
  rw[←eN] at hh
  have hy:=HY.out
  have hbw:Below w.heap.size w wr:=hy.2.1.trans ⟨HB.out.os,HB.out.tape,HB.out.output,HB.out.size,fun k hk=>HB.out.block k (by omega)⟩
  have hgs:gb < wr.heap.size:=(Array.getElem?_eq_some_iff.1 hheap).1
  have hcm:=dG.lays w.heap.size g1_0 A1_0_0 c1_0_0 l1_0_0 hl0 gb 0 (Array.range i).size w wr (by rw[blk_cell HK.out 0];rfl) HR.out hbw (by omega) (by omega) (by omega) ((HB.out.cell (p:=⟨w.heap.size,0,none⟩) (by show w.heap.size < _;omega)).trans hy.1)
  rw[←eN] at hcm
  have hst:=sort_stable (encP i) (cfP l1_0_0) 139 #[.pointer (some ⟨w.heap.size,0,none⟩)] gb 0 co6 (Array.range i) wr wr (enters_of Try.func139 (by kernel_rfl) rfl) hcm ⟨fun _=>rfl,hh,hgs⟩ (SW.start hh) (by rw[Array.size_range];omega)
  rw[cfP_lt] at hst
  simp only[Array.size_range] at hst
  have HS:=Aside0.mk hst
  have hmf: ∀ (fn:Fn) (first cap:Array Value) (w:World),(Instr.makeFunc fn first cap).run Try.prog w= .ok (.func fn first cap) w:=fun _ _ _ _=>rfl
  have HF:=Aside0.mk (And.intro hbw (And.intro hbase (And.intro hheap (And.intro h1 (And.intro h2 (And.intro h3 (And.intro hgs eN)))))))
  clear hst hcm hh hbw hgs hbase hheap h1 h2 h3 h4 ho hy hN hl0 hlm eN HO HB
  go_wp2_with fail
  refine HS.out.mono ?_
  rintro e1 w1 ⟨rfl,hsw⟩
  have HW:Aside (SW (encP i) wr gb 0 (stable (ltK (keyOf l1_0_0)) i (Array.range i)) w1):=hsw
  clear hsw HS
  go_wp2
  go_ret
  obtain⟨hbw,hbase,hheap,h1,h2,h3,hgs,eN⟩:=HF.out
  have hy:=HY.out.2.2
  obtain⟨m,os,hw1⟩:=HW.out
  have eA:stable (ltK (keyOf l1_0_0)) i (Array.range i)=byArr l1_0_0:=by unfold byArr;rw[←eN]
  rw[eA] at hw1
  have eP:w1=grow (putRow (Value.int .i64) (Sort.ahead wr m) gb 0 (byPins l1_0_0).toArray) os:=by
   rw[hw1]
   unfold sortWorld
   rw[eN,putRow_pin]
   rfl
  refine⟨_,rfl,?_,?_⟩
  ·rw[HRR.out,←byPins_is,eP]
   have:=ownsRow_sortedI (w:=wr) (base:=w.heap.size) (n:=m) (os:=os) (ss:=upTo i i) (ts:=byPins l1_0_0) (by rw[byPins_len,upTo_len,eN]) (by omega) hheap (by rw[upTo_len];exact h1) h2 h3
   rw[upTo_len] at this
   refine Kd.R_of_own ?_ (fun _ _=>trivial)
   rw[byPins_len,←eN]
   exact this
  rw[hw1]
  exact sorted_below (encP i) hbw (by omega) hbw.size
def bY.f (a0:Int) (l1_0_0:List Int):Option (List Int):=if a0=(l1_0_0.length:Int)∧0 < l1_0_0.length∧l1_0_0.length < 35184372088832 then some (byList l1_0_0)else none
theorem bY.calls (a0:Int) (g1_0:Nat) (A1_0_0:Option Addr) (c1_0_0:Nat) (l1_0_0:List Int) (r:List Int) (w:World) (hk1_0:w.heap[g1_0]? =some (.cells #[.slice A1_0_0 l1_0_0.length c1_0_0] 22 (0,0))) (hr1_0_0:Kd.C (Kd.int .i64) w A1_0_0 l1_0_0.length l1_0_0) (hc1_0_0:l1_0_0.length≤c1_0_0) (h:bY.f a0 l1_0_0=some r):
    Calls Try.prog 108 #[.int .i64 a0,.func (.func 109) #[] #[.pointer (some ⟨g1_0,0,none⟩)]] w fun e w'=> ∃ v0_:Value,e= .returned (v0_)∧Kd.R (Kd.int .i64) 3 w' w.heap.size (fun _=>True) v0_ r∧Below w.heap.size w w':=
  by_calls a0 g1_0 A1_0_0 c1_0_0 l1_0_0 r w hk1_0 hr1_0_0 hc1_0_0 h
theorem own_len {A:Option Addr} {n m c d k:Nat} (h:some k≠(Value.slice A n c).ownBlock):some k≠(Value.slice A m d).ownBlock:=by cases A <;> exact h
def bM.l0:Nat→List Int→List Int→Int→Int→Option (List Int × Int)
  |0,_,_,_,_=>none
  |k+1,x8,x51,x52,x53=>if x53 < x52 then(if 0≤x53 then(if x53 < (x51.length:Int)then(if 0≤(rd x51 x53)then(if(rd x51 x53) < (x8.length:Int)then(bM.l0 k (x8.set ((rd x51 x53):Int).toNat (wrap64 ((rd x8 (rd x51 x53))+1))) x51 x52 (wrap64 (x53+1)))else(none))else(none))else(none))else(none))else(some (x8,0))
def bM.f (k:Nat) (a0:Int) (l1:List Int):Option (List Int × Int):=(bI.f k l1).bind fun bt101=> (if bt101.2=0 then(if a0 < 0 then(some (([] :List Int),8))else((bK.f a0).bind fun t103=> (if t103=true then((bD.f k l1).bind fun t104=> (if t104=0 then((bV.f k (l1.length:Int)).bind fun t105=> ((bO.f k a0 bt101.1 t105).bind fun bt108=> (if bt108.2.2.2=0 then((bY.f (bt108.1.length:Int) bt108.2.1).bind fun t117=> (if 0≤bt108.2.2.1 then(if bt108.2.2.1≤(t117.length:Int)then((some (t117.take (bt108.2.2.1:Int).toNat:List Int)).bind fun y120=> (bM.l0 k bt108.1 y120 (y120.length:Int) 0))else(none))else(none)))else(some (([] :List Int),bt108.2.2.2)))))else((bO.f k a0 bt101.1 l1).bind fun bt126=> (if bt126.2.2.2=0 then((bY.f (bt126.1.length:Int) bt126.2.1).bind fun t135=> (if 0≤bt126.2.2.1 then(if bt126.2.2.1≤(t135.length:Int)then((some (t135.take (bt126.2.2.1:Int).toNat:List Int)).bind fun y138=> (bM.l0 k bt126.1 y138 (y138.length:Int) 0))else(none))else(none)))else(some (([] :List Int),bt126.2.2.2))))))else(some (([] :List Int),8)))))else(some (([] :List Int),bt101.2)))
theorem bM.mono_l: ∀ k,(∀ y0 y1 y2 y3,LeO (bM.l0 k y0 y1 y2 y3) (bM.l0 (k+1) y0 y1 y2 y3))
  |0=>fun _ _ _ _ r h=>by simp[bM.l0] at h
  |k+1=>by
    have ih0:=bM.mono_l k
    intro y0 y1 y2 y3
    unfold bM.l0
    repeat' (with_reducible first|exact ih0 _ _ _ _|exact bI.mono _ _|exact bV.mono _ _|exact bO.mono _ _ _ _|exact bD.mono _ _|exact LeO.refl _|exact LeO.none _|refine LeO.ite ?_ ?_|refine LeO.bind ?_ (fun _=>?_))
theorem bM.mono: ∀ a0 a1 k,LeO (bM.f k a0 a1) (bM.f (k+1) a0 a1):=by
  intro a0 a1 k
  have ih0:=bM.mono_l k
  unfold bM.f
  repeat' (with_reducible first|exact ih0 _ _ _ _|exact bI.mono _ _|exact bV.mono _ _|exact bO.mono _ _ _ _|exact bD.mono _ _|exact LeO.refl _|exact LeO.none _|refine LeO.ite ?_ ?_|refine LeO.bind ?_ (fun _=>?_))
theorem bM.calls (k:Nat) (a0:Int) (A1:Option Addr) (c1:Nat) (l1:List Int) (r1:List Int) (r2:Int) (w:World) (hr1:Kd.C (Kd.int .i64) w A1 l1.length l1) (hc1:l1.length≤c1) (h:bM.f k a0 l1=some (r1,r2)):
  Calls Try.prog 51 #[.int .i64 a0,.slice A1 l1.length c1] w fun e w'=> ∃ v0_:Value,e= .returned (.tuple #[v0_,.int .i64 r2])∧Kd.R (Kd.int .i64) 3 w' w.heap.size (fun _=>True) v0_ r1∧Below w.heap.size w w':=by
 have hmf: ∀ (fn:Fn) (first cap:Array Value) (w:World),(Instr.makeFunc fn first cap).run Try.prog w= .ok (.func fn first cap) w:=fun _ _ _ _=>rfl
 have HR1:=zA hr1
 have HC1:=zA hc1
 clear hr1 hc1
 have HB:=zA (Below.refl w.heap.size w)
 have H:((bI.f k l1).bind fun bt101=> (if bt101.2=0 then(if a0 < 0 then(some (([] :List Int),8))else((bK.f a0).bind fun t103=> (if t103=true then((bD.f k l1).bind fun t104=> (if t104=0 then((bV.f k (l1.length:Int)).bind fun t105=> ((bO.f k a0 bt101.1 t105).bind fun bt108=> (if bt108.2.2.2=0 then((bY.f (bt108.1.length:Int) bt108.2.1).bind fun t117=> (if 0≤bt108.2.2.1 then(if bt108.2.2.1≤(t117.length:Int)then((some (t117.take (bt108.2.2.1:Int).toNat:List Int)).bind fun y120=> (bM.l0 k bt108.1 y120 (y120.length:Int) 0))else(none))else(none)))else(some (([] :List Int),bt108.2.2.2)))))else((bO.f k a0 bt101.1 l1).bind fun bt126=> (if bt126.2.2.2=0 then((bY.f (bt126.1.length:Int) bt126.2.1).bind fun t135=> (if 0≤bt126.2.2.1 then(if bt126.2.2.1≤(t135.length:Int)then((some (t135.take (bt126.2.2.1:Int).toNat:List Int)).bind fun y138=> (bM.l0 k bt126.1 y138 (y138.length:Int) 0))else(none))else(none)))else(some (([] :List Int),bt126.2.2.2))))))else(some (([] :List Int),8)))))else(some (([] :List Int),bt101.2))))=some (r1,r2):=h
 clear h
 obtain⟨⟨t101,t102⟩,A3,H⟩:=qD_ H
 (try dsimp only at H)
 by_cases c4:t102=0
 ·rw[if_pos c4] at H
  have c4b0:(t102==0)=true:=beq_iff_eq.mpr c4;have c4b1:(t102 != 0)=false:=bne_eq_false_iff_eq.mpr c4;clear c4;by_cases c5:a0 < 0
  ·rw[if_pos c5] at H
   have c5b0:=zFq c5;clear c5;simp only[zNq,zOq] at H;obtain⟨rfl,rfl⟩:=H;go_enter Try.func51,Try.ntmps51;go_wp2_with (first|((with_reducible refine zJq (f:=57) rfl ?_);refine goesL_ (some 15) rfl rfl Try.func57 (by kernel_rfl) rfl #[.slice A1 l1.length c1] rfl qG ?_;(with_reducible refine(bI.calls k _ _ l1 t101 t102 _ ?side1 ?side2 A3.out).mono ?_);(case side1=>repeat(first|exact HR1.out|(with_reducible refine Kd.C_alloc ?_ _)|(with_reducible refine Kd.C_drewN ?_ _)|(with_reducible refine Kd.C_drew ?_)));(case side2=>exact HC1.out);rintro e w' ⟨rfl,⟨nd,rfl⟩⟩;refine⟨_,rfl,?_⟩));go_ret2;exact⟨_,qE,qN,qB⟩
  rw[if_neg c5] at H;have c5b0:=zGq c5;clear c5;obtain⟨t103,A6,H⟩:=qD_ H;(try dsimp only at H);by_cases c7:t103=true
  ·subst c7
   have H1:((bD.f k l1).bind fun t104=> (if t104=0 then((bV.f k (l1.length:Int)).bind fun t105=> ((bO.f k a0 t101 t105).bind fun bt108=> (if bt108.2.2.2=0 then((bY.f (bt108.1.length:Int) bt108.2.1).bind fun t117=> (if 0≤bt108.2.2.1 then(if bt108.2.2.1≤(t117.length:Int)then((some (t117.take (bt108.2.2.1:Int).toNat:List Int)).bind fun y120=> (bM.l0 k bt108.1 y120 (y120.length:Int) 0))else(none))else(none)))else(some (([] :List Int),bt108.2.2.2)))))else((bO.f k a0 t101 l1).bind fun bt126=> (if bt126.2.2.2=0 then((bY.f (bt126.1.length:Int) bt126.2.1).bind fun t135=> (if 0≤bt126.2.2.1 then(if bt126.2.2.1≤(t135.length:Int)then((some (t135.take (bt126.2.2.1:Int).toNat:List Int)).bind fun y138=> (bM.l0 k bt126.1 y138 (y138.length:Int) 0))else(none))else(none)))else(some (([] :List Int),bt126.2.2.2))))))=some (r1,r2):=by first|(rw[if_pos rfl] at H;exact H)|rfl
   clear H;have H:=H1;clear H1;obtain⟨t104,A8,H⟩:=qD_ H;(try dsimp only at H);by_cases c9:t104=0
   ·rw[if_pos c9] at H
    have c9b0:(t104==0)=true:=beq_iff_eq.mpr c9;have c9b1:(t104 != 0)=false:=bne_eq_false_iff_eq.mpr c9;clear c9;obtain⟨t105,A10,H⟩:=qD_ H;(try dsimp only at H);obtain⟨⟨t108,t109,t110,t111⟩,A11,H⟩:=qD_ H;(try dsimp only at H);by_cases c12:t111=0
    ·rw[if_pos c12] at H
     have c12b0:(t111==0)=true:=beq_iff_eq.mpr c12;have c12b1:(t111 != 0)=false:=bne_eq_false_iff_eq.mpr c12;clear c12;obtain⟨t117,A13,H⟩:=qD_ H;(try dsimp only at H);by_cases c14:0≤t110
     ·rw[if_pos c14] at H
      have c14b0:=eq_true c14;have c14b1:=zFq c14;clear c14;by_cases c15:t110≤(t117.length:Int)
      ·rw[if_pos c15] at H
       have c15b0:=eq_true c15;have c15b1:=zFq c15;clear c15;obtain⟨y120,hy120⟩: ∃ y_:List Int,y_=(t117.take (t110:Int).toNat):=⟨_,rfl⟩
       replace H:(bM.l0 k t108 y120 (y120.length:Int) 0)=some (r1,r2):=by first|(rw[hy120];with_reducible exact H)|(have H2_:=(Option.bind_some _ _).symm.trans H;rw[hy120];with_reducible exact H2_)|(have H2_:=(Option.bind_some _ _).symm.trans H;with_reducible exact H2_)|with_reducible exact H|(rw[hy120];exact H)|exact H
       have Ny120:=zA hy120;clear hy120;have H':=zA H;clear H;go_enter Try.func51,Try.ntmps51;go_wp2_with (first|((with_reducible refine zJq (f:=57) rfl ?_);refine goesL_ (some 15) rfl rfl Try.func57 (by kernel_rfl) rfl #[.slice A1 l1.length c1] rfl qG ?_;(with_reducible refine(bI.calls k _ _ l1 t101 t102 _ ?side1 ?side2 A3.out).mono ?_);(case side1=>repeat(first|exact HR1.out|(with_reducible refine Kd.C_alloc ?_ _)|(with_reducible refine Kd.C_drewN ?_ _)|(with_reducible refine Kd.C_drew ?_)));(case side2=>exact HC1.out);rintro e w' ⟨rfl,⟨nd,rfl⟩⟩;refine⟨_,rfl,?_⟩)|(go_at_call 31;(with_reducible refine(bK.calls a0 true _ A6.out).mono ?_);rintro e w' ⟨rfl,⟨nd,rfl⟩⟩)|((with_reducible refine zJq (f:=105) rfl ?_);refine goesL_ (some 29) rfl rfl Try.func105 (by kernel_rfl) rfl #[.slice A1 l1.length c1] rfl qG ?_;(with_reducible refine(bD.calls k _ _ l1 t104 _ ?side1 ?side2 A8.out).mono ?_);(case side1=>repeat(first|exact HR1.out|(with_reducible refine Kd.C_alloc ?_ _)|(with_reducible refine Kd.C_drewN ?_ _)|(with_reducible refine Kd.C_drew ?_)));(case side2=>exact HC1.out);rintro e w16 ⟨rfl,hb⟩;refine⟨_,rfl,?_⟩;replace HB:=zA (zV qB hb);(try clear hb))|((with_reducible refine zJq (f:=106) rfl ?_);refine goesL_ (some 33) rfl rfl Try.func106 (by kernel_rfl) rfl #[.int .i64 (l1.length:Int)] rfl qG ?_;(with_reducible refine(bV.calls k (l1.length:Int) t105 _ A10.out).mono ?_);rintro e w17 ⟨v106,rfl,ho0,hb⟩;refine⟨_,rfl,?_⟩;have HO107:=zA (Kd.R_lower ho0 (zW qB));replace HB:=zA (zV qB hb);(try clear hb);(try clear ho0);obtain⟨Ao18,co18,eo18⟩:=Kd.R_slice HO107.out;subst eo18)|((with_reducible refine zJq (f:=107) rfl ?_);refine goesL_ (some 38) rfl rfl Try.func107 (by kernel_rfl) rfl #[.int .i64 a0,.int .i64 t101,.slice Ao18 t105.length co18] rfl qG ?_;(with_reducible refine(bO.calls k a0 t101 _ _ t105 t108 t109 t110 t111 _ ?side1 ?side2 A11.out).mono ?_);(case side1=>repeat(first|exact(Kd.R_reads' HO107.out).2.2|(with_reducible refine Kd.C_alloc ?_ _)|(with_reducible refine Kd.C_drewN ?_ _)|(with_reducible refine Kd.C_drew ?_)));(case side2=>exact(Kd.R_reads' HO107.out).2.1);rintro e w19 ⟨v112,v114,rfl,ho0,ho1,hb⟩;refine⟨_,rfl,?_⟩;have HO113:=zA (Kd.R_lower (Kd.R_new' ho0 (Kd.R_lt (qR_ HO107.out))) (zW qB));have HO115:=zA (Kd.R_lower (Kd.R_new' ho1 (Kd.R_lt (qR_ HO107.out))) (zW qB));replace HO107:=zA (Kd.R_mono (Kd.R_told (Kd.R_told (Kd.R_old (qR_ HO107.out) hb) (Kd.R_base ho0)) (Kd.R_base ho1)) (fun _ h_=>h_.1));replace HB:=zA (zV qB hb);(try clear hb);(try clear ho0);(try clear ho1))|((with_reducible refine gate_dst (N:=9) rfl ?_);refine box_event qr (N:=9) qr (cs:= #[.slice none 0 0]) (t:=22) qg ?_;intro gb116 hg w20 hbox hb;replace HO107:=zA (Kd.R_below (qR_ HO107.out) hb);replace HO113:=zA (Kd.R_below (qR_ HO113.out) hb);replace HO115:=zA (Kd.R_below (qR_ HO115.out) hb);have BK116:=zA (hbox);have GW116:=zA ((qS:w.heap.size≤gb116));have GE116:=zA ((qS:w.heap.size≤gb116));replace HB:=zA (zV qB hb);clear hb hbox hg;obtain⟨Ao21,co21,eo21⟩:=Kd.R_slice HO115.out;subst eo21;have hcz22_0:w20.cell? ⟨gb116,0,none⟩=some (.slice none 0 0):=(zF BK116.out 0).trans rfl;have hfz22_0:=zG BK116.out 0;obtain⟨Ao23,co23,eo23⟩:=Kd.R_slice HO113.out;subst eo23)|(go_at_call 108;(with_reducible refine(bY.calls (t108.length:Int) gb116 Ao21 co21 t109 t117 _ ?side1 ?side2 ?side3 A13.out).mono ?_);(case side1=>exact(by(with_reducible repeat(first|refine zY ?_ _|refine zAq ?_|refine zZ ?_ _));refine blk_put (cs:= #[.slice none 0 0]) ?_ 0 _ rfl;exact BK116.out));(case side2=>refine(Kd.R_reads' (e:=3) (base:=w.heap.size) (ok:=fun k_=> (some k_≠(.slice Ao23 t108.length co23:Value).ownBlock∧some k_≠(.slice Ao18 t105.length co18:Value).ownBlock)) (n:=t109.length) (c:=co21) ?_).2.2;exact(by(with_reducible repeat(first|apply Kd.R_alloc|apply Kd.R_drewN|apply Kd.R_drew));exact(Kd.R_mono (Kd.R_far (p:=⟨gb116,0,none⟩) (Kd.R_types HO115.out BK116.out (by decide)) (fun _ hk=>hk.2) (.slice Ao21 t109.length co21)) (fun _ h_=>h_.1))));(case side3=>exact(Kd.R_reads' HO115.out).2.1);rintro e w24 ⟨v118,rfl,ho0,hb⟩;have HO119:=zA (Kd.R_lower (Kd.R_new' (Kd.R_new' (Kd.R_new' ho0 (Kd.R_lt (by(with_reducible repeat(first|apply Kd.R_alloc|apply Kd.R_drewN|apply Kd.R_drew));exact(Kd.R_mono (Kd.R_far (p:=⟨gb116,0,none⟩) (Kd.R_types HO107.out BK116.out (by decide)) (fun _ hk=>hk.2) (.slice Ao21 t109.length co21)) (fun _ h_=>h_.1))))) (Kd.R_lt (by(with_reducible repeat(first|apply Kd.R_alloc|apply Kd.R_drewN|apply Kd.R_drew));exact(Kd.R_mono (Kd.R_far (p:=⟨gb116,0,none⟩) (Kd.R_types HO113.out BK116.out (by decide)) (fun _ hk=>hk.2) (.slice Ao21 t109.length co21)) (fun _ h_=>h_.1))))) (Kd.R_lt (by(with_reducible repeat(first|apply Kd.R_alloc|apply Kd.R_drewN|apply Kd.R_drew));exact(Kd.R_mono (Kd.R_far (p:=⟨gb116,0,none⟩) (Kd.R_types HO115.out BK116.out (by decide)) (fun _ hk=>hk.2) (.slice Ao21 t109.length co21)) (fun _ h_=>h_.1))))) (zW qB));replace HO107:=zA (Kd.R_elder' (by(with_reducible repeat(first|apply Kd.R_alloc|apply Kd.R_drewN|apply Kd.R_drew));exact(Kd.R_mono (Kd.R_far (p:=⟨gb116,0,none⟩) (Kd.R_types HO107.out BK116.out (by decide)) (fun _ hk=>hk.2) (.slice Ao21 t109.length co21)) (fun _ h_=>h_.1))) (Kd.R_base ho0) hb);replace HO113:=zA (Kd.R_elder' (by(with_reducible repeat(first|apply Kd.R_alloc|apply Kd.R_drewN|apply Kd.R_drew));exact(Kd.R_mono (Kd.R_far (p:=⟨gb116,0,none⟩) (Kd.R_types HO113.out BK116.out (by decide)) (fun _ hk=>hk.2) (.slice Ao21 t109.length co21)) (fun _ h_=>h_.1))) (Kd.R_base ho0) hb);replace HO115:=zA (Kd.R_elder' (by(with_reducible repeat(first|apply Kd.R_alloc|apply Kd.R_drewN|apply Kd.R_drew));exact(Kd.R_mono (Kd.R_far (p:=⟨gb116,0,none⟩) (Kd.R_types HO115.out BK116.out (by decide)) (fun _ hk=>hk.2) (.slice Ao21 t109.length co21)) (fun _ h_=>h_.1))) (Kd.R_base ho0) hb);replace BK116:=zA (zX (g:=gb116) (o:= .cells #[.slice Ao21 t109.length co21] 22 (0,0)) (by(with_reducible repeat(first|refine zY ?_ _|refine zAq ?_|refine zZ ?_ _));refine blk_put (cs:= #[.slice none 0 0]) ?_ 0 _ rfl;exact BK116.out) hb);replace HB:=zA (zV qB hb);(try clear hb);(try clear ho0);obtain⟨Ao25,co25,eo25⟩:=Kd.R_slice HO119.out;subst eo25;have q26:(t110:Int)≤((t117.length:Int):Int):=qO_;obtain⟨i026,hi026,_,hsz26,_⟩:=info_parts info3;have hcut26:=cut_to (P:=Try.prog) 22 3 .i64 Try.underlying22 hi026 Ao25 t117.length co25 t110 (qO_) q26 (Kd.R_reads' HO119.out).2.1;have hr26:=Kd.R_take (m:=(t110:Int).toNat) HO119.out (by omega);have hy26:y120.length=(t110:Int).toNat:=(by rw[Ny120.out,zQ];omega);rw[←Ny120.out] at hr26;rw[←hy26] at hr26 hcut26;clear hy26 hi026 hsz26 HO119;have HO122:=zA hr26;clear hr26;replace q26:=eq_true q26))
       go_loopg[53] k (fun kq v53 w'=> ∃ (x8_1:List Int) (x53_1:Int),v53= .int .i64 x53_1∧Aside0 (bM.l0 kq x8_1 y120 (y120.length:Int) x53_1=some (r1,r2))∧Aside0 (kq≤k)∧Aside0 (Kd.R (Kd.int .i64) 3 w' w.heap.size (fun k_=>some k_≠((.slice Ao25 y120.length co25):Value).ownBlock∧some k_≠((.slice Ao21 t109.length co21):Value).ownBlock) (.slice Ao23 t108.length co23) x8_1)∧Aside0 (Kd.R (Kd.int .i64) 3 w' w.heap.size (fun k_=>some k_≠((.slice Ao23 t108.length co23):Value).ownBlock∧some k_≠((.slice Ao21 t109.length co21):Value).ownBlock) (.slice Ao25 y120.length co25) y120)∧Aside0 (Kd.R (Kd.int .i64) 3 w' w.heap.size (fun k_=>some k_≠((.slice Ao23 t108.length co23):Value).ownBlock∧some k_≠((.slice Ao25 y120.length co25):Value).ownBlock) (.slice Ao21 t109.length co21) t109)∧Aside0 (w'.heap[gb116]? =some (.cells #[(.slice Ao21 t109.length co21)] 22 (0,0)))∧Aside0 (Below w.heap.size w w'))
       case atStart=>exact⟨(t108),(0),qF_,H',⟨Nat.le_refl _⟩,⟨by(with_reducible repeat(first|apply Kd.R_alloc|apply Kd.R_drewN|apply Kd.R_drew));exact Kd.R_mono HO113.out (fun _ hk=> ⟨own_len hk.2,hk.1.1⟩)⟩,⟨by(with_reducible repeat(first|apply Kd.R_alloc|apply Kd.R_drewN|apply Kd.R_drew));exact Kd.R_mono HO122.out (fun _ hk=> ⟨hk.1.2,hk.2⟩)⟩,⟨by(with_reducible repeat(first|apply Kd.R_alloc|apply Kd.R_drewN|apply Kd.R_drew));exact Kd.R_mono HO115.out (fun _ hk=> ⟨hk.1.1,own_len hk.2⟩)⟩,⟨by exact BK116.out⟩,⟨qB⟩⟩
       case round=>
        clear H';try clear c1
        try clear p2
        try clear q2
        try clear c4
        try clear c4b0
        try clear c4b1
        try clear c5
        try clear c5b0
        try clear c7
        try clear c9
        try clear c9b0
        try clear c9b1
        try clear c10
        try clear c12
        try clear c12b0
        try clear c12b1
        try clear c14
        try clear c14b0
        try clear c14b1
        try clear c15
        try clear c15b0
        try clear c15b1
        try clear q26
        try clear hcz22_0
        try clear hfz22_0
        try clear q26
        obtain⟨x8_1,x53_1,rfl,HA,HK1,HO_8,HO_51,HO_117000,BK116,HB⟩:=hrel;have hl8_1:=(Kd.R_reads' HO_8.out).1;rw[hl8_1] at HO_8;(try simp only[hl8_1])
        (try simp only[hl8_1] at BK116)
        (try simp only[hl8_1] at HO_51)
        (try simp only[hl8_1] at HO_117000)
        cases gk with
        |zero=>exact absurd HA.out (by simp[bM.l0])
        |succ k1=>
         have H:=HA.out;clear HA;simp only[bM.l0] at H;by_cases c27:x53_1 < (y120.length:Int)
         ·rw[if_pos c27] at H
          have c27b0:=zFq c27;clear c27;by_cases c28:0≤x53_1
          ·rw[if_pos c28] at H
           have c28b0:=zFq c28;clear c28;by_cases c29:x53_1 < (y120.length:Int)
           ·rw[if_pos c29] at H
            have c29b0:=zFq c29;clear c29;by_cases c30:0≤(rd y120 x53_1)
            ·rw[if_pos c30] at H
             have c30b0:=zFq c30;clear c30;by_cases c31:(rd y120 x53_1) < (x8_1.length:Int)
             ·rw[if_pos c31] at H
              have c31b0:=zFq c31;clear c31;obtain⟨y125,hy125⟩: ∃ y_:List Int,y_=(x8_1.set ((rd y120 x53_1):Int).toNat (wrap64 ((rd x8_1 (rd y120 x53_1))+1))):=⟨_,rfl⟩
              replace H:(bM.l0 k1 y125 y120 (y120.length:Int) (wrap64 (x53_1+1)))=some (r1,r2):=by first|(rw[hy125];with_reducible exact H)|(have H2_:=(Option.bind_some _ _).symm.trans H;rw[hy125];with_reducible exact H2_)|(have H2_:=(Option.bind_some _ _).symm.trans H;with_reducible exact H2_)|with_reducible exact H|(rw[hy125];exact H)|exact H
              have Ny125:=zA hy125;clear hy125;have H':=zA H;clear H;have p123:0≤(x53_1:Int):=qO_;have q123:x53_1 < (y120.length:Int):=qO_;obtain⟨ad123,e123,hx123_0⟩:=Kd.at_int (Kd.R_reads' HO_51.out).2.2 x53_1 p123 q123;cases e123
              replace p123:=eq_true p123;replace q123:=eq_true q123;have p124:0≤((rd y120 x53_1):Int):=qO_;have q124:(rd y120 x53_1) < (x8_1.length:Int):=qO_;obtain⟨ad124,e124,hx124_0⟩:=Kd.at_int (Kd.R_reads' HO_8.out).2.2 (rd y120 x53_1) p124 q124;cases e124
              replace p124:=eq_true p124;replace q124:=eq_true q124;have p32:0≤((rd y120 x53_1):Int):=qO_;have q32:((rd y120 x53_1):Int) < ((x8_1.length:Int):Int):=qO_;obtain⟨go32,co32,eo32,gb32,gl32,cl32,HG32⟩:=Kd.R_form HO_8.out (by omega);(first|cases eo32|(injection eo32 with ea_ en_ ec_;(first|subst ea_|(injection ea_ with ea_;subst ea_));subst ec_;clear en_))
              have GB32:=zA gb32;have GG32:=zA HG32;clear gb32 gl32 HG32;(first|simp only[add_plain] at hx124_0|skip)
              obtain⟨hx32_0,hf32_0⟩:=Kd.R_celln 0 HO_8.out ((rd y120 x53_1):Int) p32 q32;replace p32:=eq_true p32;replace q32:=eq_true q32;have HP33:=Kd.R_putg HO_8.out ((rd y120 x53_1):Int) (wrap64 ((rd x8_1 (rd y120 x53_1))+1));go_wp2_with (first|((with_reducible refine gate_store (t:=3) (p:=62) rfl ?_);refine store_event (t:=3) (p:=62) (v:=?vo_w34) (w1:=(wr.setCell ⟨go32,((rd y120 x53_1):Int).toNat,none⟩ (.int .i64 (wrap64 ((rd x8_1 (rd y120 x53_1))+1))))) ?hg ?ho ?hn ?hr ?_;(case ho=>rfl);(case hg=>rfl);(case hn=>rfl);(case hr=>first|(go_simp;done)|(go_simp;rfl));intro w34 hw;have hg:wr.grownBy w34 (some go32):=(by rw[hw];exact HP33.2);have hp_:Kd.R (Kd.int .i64) 3 w34 w.heap.size (fun k_=>some k_≠(.slice (some ad123) y120.length co25:Value).ownBlock∧some k_≠(.slice Ao21 t109.length co21:Value).ownBlock) (.slice (some ⟨go32,0,none⟩) x8_1.length co23) y125:=(by rw[hw,Ny125.out];exact HP33.1);clear HP33;replace HO_51:=zA (Kd.R_after (v:=(.slice (some ⟨go32,0,none⟩) x8_1.length co23)) (v1:=(.slice (some ⟨go32,0,none⟩) x8_1.length co23)) (ok:=(fun k_=>some k_≠(.slice Ao21 t109.length co21:Value).ownBlock)) (by(with_reducible repeat(first|apply Kd.R_alloc|apply Kd.R_drewN|apply Kd.R_drew));exact Kd.R_mono HO_51.out (fun _ hk=> ⟨hk.2,hk.1⟩)) hg (.inl rfl));replace HO_117000:=zA (Kd.R_after (v:=(.slice (some ⟨go32,0,none⟩) x8_1.length co23)) (v1:=(.slice (some ⟨go32,0,none⟩) x8_1.length co23)) (ok:=(fun k_=>some k_≠(.slice (some ad123) y120.length co25:Value).ownBlock)) (by(with_reducible repeat(first|apply Kd.R_alloc|apply Kd.R_drewN|apply Kd.R_drew));exact Kd.R_mono HO_117000.out (fun _ hk=> ⟨hk.2,hk.1⟩)) hg (.inl rfl));replace BK116:=zA (blk_grown (g:=gb116) (o:= .cells #[.slice Ao21 t109.length co21] 22 (0,0)) (qW BK116.out) hg (Kd.R_ne HO_8.out BK116.out (by decide)));replace HO_8:=zA (hp_);replace HB:=zA ((by rw[hw];exact zE (HB.out) GB32.out:Below w.heap.size w w34));clear hg hw hp_));(try simp only[←hl8_1])
              go_roundg k1
              case measure=>have:=HK1.out;omega
              case rel=>exact⟨(y125),(wrap64 (x53_1+1)),qF_,H',⟨by have:=HK1.out;omega⟩,⟨by(try simp only[hl8_1]);(with_reducible repeat(first|apply Kd.R_alloc|apply Kd.R_drewN|apply Kd.R_drew));exact HO_8.out⟩,⟨by(try simp only[hl8_1]);(with_reducible repeat(first|apply Kd.R_alloc|apply Kd.R_drewN|apply Kd.R_drew));exact Kd.R_mono HO_51.out (fun _ hk=> ⟨hk.2,hk.1⟩)⟩,⟨by(try simp only[hl8_1]);(with_reducible repeat(first|apply Kd.R_alloc|apply Kd.R_drewN|apply Kd.R_drew));exact Kd.R_mono HO_117000.out (fun _ hk=> ⟨hk.2,hk.1⟩)⟩,⟨by(try simp only[hl8_1]);exact BK116.out⟩,⟨qB⟩⟩
             rw[if_neg c31] at H;exact absurd H (by simp)
            rw[if_neg c30] at H;exact absurd H (by simp)
           rw[if_neg c29] at H;exact absurd H (by simp)
          rw[if_neg c28] at H;exact absurd H (by simp)
         rw[if_neg c27] at H;have c27b0:=zGq c27;clear c27;simp only[zNq,zOq] at H;obtain⟨rfl,rfl⟩:=H;go_wp2;go_ret2;exact⟨_,qE,by(with_reducible repeat(first|apply Kd.R_alloc|apply Kd.R_drewN|apply Kd.R_drew));exact Kd.R_mono HO_8.out (fun _ hk=>trivial),qB⟩
      rw[if_neg c15] at H;exact absurd H (by simp)
     rw[if_neg c14] at H;exact absurd H (by simp)
    rw[if_neg c12] at H;have c12b0:(t111==0)=false:=beq_eq_false_iff_ne.mpr c12;have c12b1:(t111 != 0)=true:=bne_iff_ne.mpr c12;simp only[zNq,zOq] at H;obtain⟨rfl,rfl⟩:=H;go_enter Try.func51,Try.ntmps51;go_wp2_with (first|((with_reducible refine zJq (f:=57) rfl ?_);refine goesL_ (some 15) rfl rfl Try.func57 (by kernel_rfl) rfl #[.slice A1 l1.length c1] rfl qG ?_;(with_reducible refine(bI.calls k _ _ l1 t101 t102 _ ?side1 ?side2 A3.out).mono ?_);(case side1=>repeat(first|exact HR1.out|(with_reducible refine Kd.C_alloc ?_ _)|(with_reducible refine Kd.C_drewN ?_ _)|(with_reducible refine Kd.C_drew ?_)));(case side2=>exact HC1.out);rintro e w' ⟨rfl,⟨nd,rfl⟩⟩;refine⟨_,rfl,?_⟩)|(go_at_call 31;(with_reducible refine(bK.calls a0 true _ A6.out).mono ?_);rintro e w' ⟨rfl,⟨nd,rfl⟩⟩)|((with_reducible refine zJq (f:=105) rfl ?_);refine goesL_ (some 29) rfl rfl Try.func105 (by kernel_rfl) rfl #[.slice A1 l1.length c1] rfl qG ?_;(with_reducible refine(bD.calls k _ _ l1 t104 _ ?side1 ?side2 A8.out).mono ?_);(case side1=>repeat(first|exact HR1.out|(with_reducible refine Kd.C_alloc ?_ _)|(with_reducible refine Kd.C_drewN ?_ _)|(with_reducible refine Kd.C_drew ?_)));(case side2=>exact HC1.out);rintro e w35 ⟨rfl,hb⟩;refine⟨_,rfl,?_⟩;replace HB:=zA (zV qB hb);(try clear hb))|((with_reducible refine zJq (f:=106) rfl ?_);refine goesL_ (some 33) rfl rfl Try.func106 (by kernel_rfl) rfl #[.int .i64 (l1.length:Int)] rfl qG ?_;(with_reducible refine(bV.calls k (l1.length:Int) t105 _ A10.out).mono ?_);rintro e w36 ⟨v106,rfl,ho0,hb⟩;refine⟨_,rfl,?_⟩;have HO107:=zA (Kd.R_lower ho0 (zW qB));replace HB:=zA (zV qB hb);(try clear hb);(try clear ho0);obtain⟨Ao37,co37,eo37⟩:=Kd.R_slice HO107.out;subst eo37)|((with_reducible refine zJq (f:=107) rfl ?_);refine goesL_ (some 38) rfl rfl Try.func107 (by kernel_rfl) rfl #[.int .i64 a0,.int .i64 t101,.slice Ao37 t105.length co37] rfl qG ?_;(with_reducible refine(bO.calls k a0 t101 _ _ t105 t108 t109 t110 t111 _ ?side1 ?side2 A11.out).mono ?_);(case side1=>repeat(first|exact(Kd.R_reads' HO107.out).2.2|(with_reducible refine Kd.C_alloc ?_ _)|(with_reducible refine Kd.C_drewN ?_ _)|(with_reducible refine Kd.C_drew ?_)));(case side2=>exact(Kd.R_reads' HO107.out).2.1);rintro e w38 ⟨v112,v114,rfl,ho0,ho1,hb⟩;refine⟨_,rfl,?_⟩;have HO113:=zA (Kd.R_lower (Kd.R_new' ho0 (Kd.R_lt (qR_ HO107.out))) (zW qB));have HO115:=zA (Kd.R_lower (Kd.R_new' ho1 (Kd.R_lt (qR_ HO107.out))) (zW qB));replace HO107:=zA (Kd.R_mono (Kd.R_told (Kd.R_told (Kd.R_old (qR_ HO107.out) hb) (Kd.R_base ho0)) (Kd.R_base ho1)) (fun _ h_=>h_.1));replace HB:=zA (zV qB hb);(try clear hb);(try clear ho0);(try clear ho1))|((with_reducible refine gate_dst (N:=9) rfl ?_);refine box_event qr (N:=9) qr (cs:= #[.slice none 0 0]) (t:=22) qg ?_;intro gb116 hg w39 hbox hb;replace HO107:=zA (Kd.R_below (qR_ HO107.out) hb);replace HO113:=zA (Kd.R_below (qR_ HO113.out) hb);replace HO115:=zA (Kd.R_below (qR_ HO115.out) hb);have BK116:=zA (hbox);have GW116:=zA ((qS:w.heap.size≤gb116));have GE116:=zA ((qS:w.heap.size≤gb116));replace HB:=zA (zV qB hb);clear hb hbox hg;obtain⟨Ao40,co40,eo40⟩:=Kd.R_slice HO115.out;subst eo40;have hcz41_0:w39.cell? ⟨gb116,0,none⟩=some (.slice none 0 0):=(zF BK116.out 0).trans rfl;have hfz41_0:=zG BK116.out 0))
    go_ret2;exact⟨_,qE,qN,qB⟩
   rw[if_neg c9] at H;have c9b0:(t104==0)=false:=beq_eq_false_iff_ne.mpr c9;have c9b1:(t104 != 0)=true:=bne_iff_ne.mpr c9;obtain⟨⟨t126,t127,t128,t129⟩,A42,H⟩:=qD_ H;(try dsimp only at H);by_cases c43:t129=0
   ·rw[if_pos c43] at H
    have c43b0:(t129==0)=true:=beq_iff_eq.mpr c43;have c43b1:(t129 != 0)=false:=bne_eq_false_iff_eq.mpr c43;clear c43;obtain⟨t135,A44,H⟩:=qD_ H;(try dsimp only at H);by_cases c45:0≤t128
    ·rw[if_pos c45] at H
     have c45b0:=eq_true c45;have c45b1:=zFq c45;clear c45;by_cases c46:t128≤(t135.length:Int)
     ·rw[if_pos c46] at H
      have c46b0:=eq_true c46;have c46b1:=zFq c46;clear c46;obtain⟨y138,hy138⟩: ∃ y_:List Int,y_=(t135.take (t128:Int).toNat):=⟨_,rfl⟩
      replace H:(bM.l0 k t126 y138 (y138.length:Int) 0)=some (r1,r2):=by first|(rw[hy138];with_reducible exact H)|(have H2_:=(Option.bind_some _ _).symm.trans H;rw[hy138];with_reducible exact H2_)|(have H2_:=(Option.bind_some _ _).symm.trans H;with_reducible exact H2_)|with_reducible exact H|(rw[hy138];exact H)|exact H
      have Ny138:=zA hy138;clear hy138;have H':=zA H;clear H;go_enter Try.func51,Try.ntmps51;go_wp2_with (first|((with_reducible refine zJq (f:=57) rfl ?_);refine goesL_ (some 15) rfl rfl Try.func57 (by kernel_rfl) rfl #[.slice A1 l1.length c1] rfl qG ?_;(with_reducible refine(bI.calls k _ _ l1 t101 t102 _ ?side1 ?side2 A3.out).mono ?_);(case side1=>repeat(first|exact HR1.out|(with_reducible refine Kd.C_alloc ?_ _)|(with_reducible refine Kd.C_drewN ?_ _)|(with_reducible refine Kd.C_drew ?_)));(case side2=>exact HC1.out);rintro e w' ⟨rfl,⟨nd,rfl⟩⟩;refine⟨_,rfl,?_⟩)|(go_at_call 31;(with_reducible refine(bK.calls a0 true _ A6.out).mono ?_);rintro e w' ⟨rfl,⟨nd,rfl⟩⟩)|((with_reducible refine zJq (f:=105) rfl ?_);refine goesL_ (some 29) rfl rfl Try.func105 (by kernel_rfl) rfl #[.slice A1 l1.length c1] rfl qG ?_;(with_reducible refine(bD.calls k _ _ l1 t104 _ ?side1 ?side2 A8.out).mono ?_);(case side1=>repeat(first|exact HR1.out|(with_reducible refine Kd.C_alloc ?_ _)|(with_reducible refine Kd.C_drewN ?_ _)|(with_reducible refine Kd.C_drew ?_)));(case side2=>exact HC1.out);rintro e w47 ⟨rfl,hb⟩;refine⟨_,rfl,?_⟩;replace HB:=zA (zV qB hb);(try clear hb))|((with_reducible refine zJq (f:=107) rfl ?_);refine goesL_ (some 38) rfl rfl Try.func107 (by kernel_rfl) rfl #[.int .i64 a0,.int .i64 t101,.slice A1 l1.length c1] rfl qG ?_;(with_reducible refine(bO.calls k a0 t101 _ _ l1 t126 t127 t128 t129 _ ?side1 ?side2 A42.out).mono ?_);(case side1=>exact qC (Kd.C_below HR1.out HB.out));(case side2=>exact HC1.out);rintro e w48 ⟨v130,v132,rfl,ho0,ho1,hb⟩;refine⟨_,rfl,?_⟩;have HO131:=zA (Kd.R_lower ho0 (zW qB));have HO133:=zA (Kd.R_lower ho1 (zW qB));replace HB:=zA (zV qB hb);(try clear hb);(try clear ho0);(try clear ho1))|((with_reducible refine gate_dst (N:=9) rfl ?_);refine box_event qr (N:=9) qr (cs:= #[.slice none 0 0]) (t:=22) qg ?_;intro gb134 hg w49 hbox hb;replace HO131:=zA (Kd.R_below (qR_ HO131.out) hb);replace HO133:=zA (Kd.R_below (qR_ HO133.out) hb);have BK134:=zA (hbox);have GW134:=zA ((qS:w.heap.size≤gb134));have GE134:=zA ((qS:w.heap.size≤gb134));replace HB:=zA (zV qB hb);clear hb hbox hg;obtain⟨Ao50,co50,eo50⟩:=Kd.R_slice HO133.out;subst eo50;have hcz51_0:w49.cell? ⟨gb134,0,none⟩=some (.slice none 0 0):=(zF BK134.out 0).trans rfl;have hfz51_0:=zG BK134.out 0;obtain⟨Ao52,co52,eo52⟩:=Kd.R_slice HO131.out;subst eo52)|(go_at_call 108;(with_reducible refine(bY.calls (t126.length:Int) gb134 Ao50 co50 t127 t135 _ ?side1 ?side2 ?side3 A44.out).mono ?_);(case side1=>exact(by(with_reducible repeat(first|refine zY ?_ _|refine zAq ?_|refine zZ ?_ _));refine blk_put (cs:= #[.slice none 0 0]) ?_ 0 _ rfl;exact BK134.out));(case side2=>refine(Kd.R_reads' (e:=3) (base:=w.heap.size) (ok:=fun k_=>some k_≠(.slice Ao52 t126.length co52:Value).ownBlock) (n:=t127.length) (c:=co50) ?_).2.2;exact(by(with_reducible repeat(first|apply Kd.R_alloc|apply Kd.R_drewN|apply Kd.R_drew));exact(Kd.R_mono (Kd.R_far (p:=⟨gb134,0,none⟩) (Kd.R_types HO133.out BK134.out (by decide)) (fun _ hk=>hk.2) (.slice Ao50 t127.length co50)) (fun _ h_=>h_.1))));(case side3=>exact(Kd.R_reads' HO133.out).2.1);rintro e w53 ⟨v136,rfl,ho0,hb⟩;have HO137:=zA (Kd.R_lower (Kd.R_new' (Kd.R_new' ho0 (Kd.R_lt (by(with_reducible repeat(first|apply Kd.R_alloc|apply Kd.R_drewN|apply Kd.R_drew));exact(Kd.R_mono (Kd.R_far (p:=⟨gb134,0,none⟩) (Kd.R_types HO131.out BK134.out (by decide)) (fun _ hk=>hk.2) (.slice Ao50 t127.length co50)) (fun _ h_=>h_.1))))) (Kd.R_lt (by(with_reducible repeat(first|apply Kd.R_alloc|apply Kd.R_drewN|apply Kd.R_drew));exact(Kd.R_mono (Kd.R_far (p:=⟨gb134,0,none⟩) (Kd.R_types HO133.out BK134.out (by decide)) (fun _ hk=>hk.2) (.slice Ao50 t127.length co50)) (fun _ h_=>h_.1))))) (zW qB));replace HO131:=zA (Kd.R_elder' (by(with_reducible repeat(first|apply Kd.R_alloc|apply Kd.R_drewN|apply Kd.R_drew));exact(Kd.R_mono (Kd.R_far (p:=⟨gb134,0,none⟩) (Kd.R_types HO131.out BK134.out (by decide)) (fun _ hk=>hk.2) (.slice Ao50 t127.length co50)) (fun _ h_=>h_.1))) (Kd.R_base ho0) hb);replace HO133:=zA (Kd.R_elder' (by(with_reducible repeat(first|apply Kd.R_alloc|apply Kd.R_drewN|apply Kd.R_drew));exact(Kd.R_mono (Kd.R_far (p:=⟨gb134,0,none⟩) (Kd.R_types HO133.out BK134.out (by decide)) (fun _ hk=>hk.2) (.slice Ao50 t127.length co50)) (fun _ h_=>h_.1))) (Kd.R_base ho0) hb);replace BK134:=zA (zX (g:=gb134) (o:= .cells #[.slice Ao50 t127.length co50] 22 (0,0)) (by(with_reducible repeat(first|refine zY ?_ _|refine zAq ?_|refine zZ ?_ _));refine blk_put (cs:= #[.slice none 0 0]) ?_ 0 _ rfl;exact BK134.out) hb);replace HB:=zA (zV qB hb);(try clear hb);(try clear ho0);obtain⟨Ao54,co54,eo54⟩:=Kd.R_slice HO137.out;subst eo54;have q55:(t128:Int)≤((t135.length:Int):Int):=qO_;obtain⟨i055,hi055,_,hsz55,_⟩:=info_parts info3;have hcut55:=cut_to (P:=Try.prog) 22 3 .i64 Try.underlying22 hi055 Ao54 t135.length co54 t128 (qO_) q55 (Kd.R_reads' HO137.out).2.1;have hr55:=Kd.R_take (m:=(t128:Int).toNat) HO137.out (by omega);have hy55:y138.length=(t128:Int).toNat:=(by rw[Ny138.out,zQ];omega);rw[←Ny138.out] at hr55;rw[←hy55] at hr55 hcut55;clear hy55 hi055 hsz55 HO137;have HO140:=zA hr55;clear hr55;replace q55:=eq_true q55))
      go_loopg[53] k (fun kq v53 w'=> ∃ (x8_1:List Int) (x53_1:Int),v53= .int .i64 x53_1∧Aside0 (bM.l0 kq x8_1 y138 (y138.length:Int) x53_1=some (r1,r2))∧Aside0 (kq≤k)∧Aside0 (Kd.R (Kd.int .i64) 3 w' w.heap.size (fun k_=>some k_≠((.slice Ao54 y138.length co54):Value).ownBlock) (.slice Ao52 t126.length co52) x8_1)∧Aside0 (Kd.R (Kd.int .i64) 3 w' w.heap.size (fun k_=>some k_≠((.slice Ao52 t126.length co52):Value).ownBlock) (.slice Ao54 y138.length co54) y138)∧Aside0 (Below w.heap.size w w'))
      case atStart=>exact⟨(t126),(0),qF_,H',⟨Nat.le_refl _⟩,⟨by(with_reducible repeat(first|apply Kd.R_alloc|apply Kd.R_drewN|apply Kd.R_drew));exact Kd.R_mono HO131.out (fun _ hk=>own_len hk.2)⟩,⟨by(with_reducible repeat(first|apply Kd.R_alloc|apply Kd.R_drewN|apply Kd.R_drew));exact Kd.R_mono HO140.out (fun _ hk=>hk.1.2)⟩,⟨qB⟩⟩
      case round=>
       clear H';try clear c1
       try clear p1
       try clear q1
       try clear hx1
       try clear c2
       try clear p2
       try clear q2
       try clear c3
       try clear p3
       try clear q3
       try clear hx3
       try clear hf3
       try clear c4
       try clear c4b0
       try clear c4b1
       try clear c5
       try clear c5b0
       try clear q5
       try clear p6
       try clear c7
       try clear c9
       try clear c9b0
       try clear c9b1
       try clear c10
       try clear c12
       try clear c12b0
       try clear c12b1
       try clear p12
       try clear q12
       try clear hx12
       try clear c14
       try clear c14b0
       try clear c14b1
       try clear c15
       try clear c15b0
       try clear c15b1
       try clear q26
       try clear c27
       try clear c27b0
       try clear c28
       try clear c28b0
       try clear c29
       try clear c29b0
       try clear c30
       try clear c30b0
       try clear c31
       try clear c31b0
       try clear p32
       try clear q32
       try clear hx32
       try clear hf32
       try clear c43
       try clear c43b0
       try clear c43b1
       try clear c45
       try clear c45b0
       try clear c45b1
       try clear c46
       try clear c46b0
       try clear c46b1
       try clear c51
       try clear q55
       try clear hcz22_0
       try clear hcz41_0
       try clear hcz51_0
       try clear hfz22_0
       try clear hfz41_0
       try clear hfz51_0
       try clear hx123_0
       try clear hx124_0
       try clear hx32_0
       try clear p123
       try clear p124
       try clear p2
       try clear p32
       try clear q123
       try clear q124
       try clear q2
       try clear q26
       try clear q32
       try clear q55
       obtain⟨x8_1,x53_1,rfl,HA,HK1,HO_8,HO_51,HB⟩:=hrel;have hl8_1:=(Kd.R_reads' HO_8.out).1;rw[hl8_1] at HO_8;(try simp only[hl8_1])
       (try simp only[hl8_1] at HO_51)
       cases gk with
       |zero=>exact absurd HA.out (by simp[bM.l0])
       |succ k1=>
        have H:=HA.out;clear HA;simp only[bM.l0] at H;by_cases c56:x53_1 < (y138.length:Int)
        ·rw[if_pos c56] at H
         have c56b0:=zFq c56;clear c56;by_cases c57:0≤x53_1
         ·rw[if_pos c57] at H
          have c57b0:=zFq c57;clear c57;by_cases c58:x53_1 < (y138.length:Int)
          ·rw[if_pos c58] at H
           have c58b0:=zFq c58;clear c58;by_cases c59:0≤(rd y138 x53_1)
           ·rw[if_pos c59] at H
            have c59b0:=zFq c59;clear c59;by_cases c60:(rd y138 x53_1) < (x8_1.length:Int)
            ·rw[if_pos c60] at H
             have c60b0:=zFq c60;clear c60;obtain⟨y125,hy125⟩: ∃ y_:List Int,y_=(x8_1.set ((rd y138 x53_1):Int).toNat (wrap64 ((rd x8_1 (rd y138 x53_1))+1))):=⟨_,rfl⟩
             replace H:(bM.l0 k1 y125 y138 (y138.length:Int) (wrap64 (x53_1+1)))=some (r1,r2):=by first|(rw[hy125];with_reducible exact H)|(have H2_:=(Option.bind_some _ _).symm.trans H;rw[hy125];with_reducible exact H2_)|(have H2_:=(Option.bind_some _ _).symm.trans H;with_reducible exact H2_)|with_reducible exact H|(rw[hy125];exact H)|exact H
             have Ny125:=zA hy125;clear hy125;have H':=zA H;clear H;have p123:0≤(x53_1:Int):=qO_;have q123:x53_1 < (y138.length:Int):=qO_;obtain⟨ad123,e123,hx123_0⟩:=Kd.at_int (Kd.R_reads' HO_51.out).2.2 x53_1 p123 q123;cases e123
             replace p123:=eq_true p123;replace q123:=eq_true q123;have p124:0≤((rd y138 x53_1):Int):=qO_;have q124:(rd y138 x53_1) < (x8_1.length:Int):=qO_;obtain⟨ad124,e124,hx124_0⟩:=Kd.at_int (Kd.R_reads' HO_8.out).2.2 (rd y138 x53_1) p124 q124;cases e124
             replace p124:=eq_true p124;replace q124:=eq_true q124;have p61:0≤((rd y138 x53_1):Int):=qO_;have q61:((rd y138 x53_1):Int) < ((x8_1.length:Int):Int):=qO_;obtain⟨go61,co61,eo61,gb61,gl61,cl61,HG61⟩:=Kd.R_form HO_8.out (by omega);(first|cases eo61|(injection eo61 with ea_ en_ ec_;(first|subst ea_|(injection ea_ with ea_;subst ea_));subst ec_;clear en_))
             have GB61:=zA gb61;have GG61:=zA HG61;clear gb61 gl61 HG61;(first|simp only[add_plain] at hx124_0|skip)
             obtain⟨hx61_0,hf61_0⟩:=Kd.R_celln 0 HO_8.out ((rd y138 x53_1):Int) p61 q61;replace p61:=eq_true p61;replace q61:=eq_true q61;have HP62:=Kd.R_putg HO_8.out ((rd y138 x53_1):Int) (wrap64 ((rd x8_1 (rd y138 x53_1))+1));go_wp2_with (first|((with_reducible refine gate_store (t:=3) (p:=62) rfl ?_);refine store_event (t:=3) (p:=62) (v:=?vo_w63) (w1:=(wr.setCell ⟨go61,((rd y138 x53_1):Int).toNat,none⟩ (.int .i64 (wrap64 ((rd x8_1 (rd y138 x53_1))+1))))) ?hg ?ho ?hn ?hr ?_;(case ho=>rfl);(case hg=>rfl);(case hn=>rfl);(case hr=>first|(go_simp;done)|(go_simp;rfl));intro w63 hw;have hg:wr.grownBy w63 (some go61):=(by rw[hw];exact HP62.2);have hp_:Kd.R (Kd.int .i64) 3 w63 w.heap.size (fun k_=>some k_≠(.slice (some ad123) y138.length co54:Value).ownBlock) (.slice (some ⟨go61,0,none⟩) x8_1.length co52) y125:=(by rw[hw,Ny125.out];exact HP62.1);clear HP62;replace HO_8:=zA (hp_);replace HO_51:=zA (Kd.R_after (v:=(.slice (some ⟨go61,0,none⟩) x8_1.length co52)) (v1:=(.slice (some ⟨go61,0,none⟩) x8_1.length co52)) (ok:=(fun _=>True)) (by(with_reducible repeat(first|apply Kd.R_alloc|apply Kd.R_drewN|apply Kd.R_drew));exact Kd.R_mono HO_51.out (fun _ hk=> ⟨trivial,hk⟩)) hg (.inl rfl));replace HB:=zA ((by rw[hw];exact zE (HB.out) GB61.out:Below w.heap.size w w63));clear hg hw hp_));(try simp only[←hl8_1])
             go_roundg k1
             case measure=>have:=HK1.out;omega
             case rel=>exact⟨(y125),(wrap64 (x53_1+1)),qF_,H',⟨by have:=HK1.out;omega⟩,⟨by(try simp only[hl8_1]);(with_reducible repeat(first|apply Kd.R_alloc|apply Kd.R_drewN|apply Kd.R_drew));exact HO_8.out⟩,⟨by(try simp only[hl8_1]);(with_reducible repeat(first|apply Kd.R_alloc|apply Kd.R_drewN|apply Kd.R_drew));exact Kd.R_mono HO_51.out (fun _ hk=>hk.2)⟩,⟨qB⟩⟩
            rw[if_neg c60] at H;exact absurd H (by simp)
           rw[if_neg c59] at H;exact absurd H (by simp)
          rw[if_neg c58] at H;exact absurd H (by simp)
         rw[if_neg c57] at H;exact absurd H (by simp)
        rw[if_neg c56] at H;have c56b0:=zGq c56;clear c56;simp only[zNq,zOq] at H;obtain⟨rfl,rfl⟩:=H;go_wp2;go_ret2;exact⟨_,qE,by(with_reducible repeat(first|apply Kd.R_alloc|apply Kd.R_drewN|apply Kd.R_drew));exact Kd.R_mono HO_8.out (fun _ hk=>trivial),qB⟩
     rw[if_neg c46] at H;exact absurd H (by simp)
    rw[if_neg c45] at H;exact absurd H (by simp)
   rw[if_neg c43] at H;have c43b0:(t129==0)=false:=beq_eq_false_iff_ne.mpr c43;have c43b1:(t129 != 0)=true:=bne_iff_ne.mpr c43;simp only[zNq,zOq] at H;obtain⟨rfl,rfl⟩:=H;go_enter Try.func51,Try.ntmps51;go_wp2_with (first|((with_reducible refine zJq (f:=57) rfl ?_);refine goesL_ (some 15) rfl rfl Try.func57 (by kernel_rfl) rfl #[.slice A1 l1.length c1] rfl qG ?_;(with_reducible refine(bI.calls k _ _ l1 t101 t102 _ ?side1 ?side2 A3.out).mono ?_);(case side1=>repeat(first|exact HR1.out|(with_reducible refine Kd.C_alloc ?_ _)|(with_reducible refine Kd.C_drewN ?_ _)|(with_reducible refine Kd.C_drew ?_)));(case side2=>exact HC1.out);rintro e w' ⟨rfl,⟨nd,rfl⟩⟩;refine⟨_,rfl,?_⟩)|(go_at_call 31;(with_reducible refine(bK.calls a0 true _ A6.out).mono ?_);rintro e w' ⟨rfl,⟨nd,rfl⟩⟩)|((with_reducible refine zJq (f:=105) rfl ?_);refine goesL_ (some 29) rfl rfl Try.func105 (by kernel_rfl) rfl #[.slice A1 l1.length c1] rfl qG ?_;(with_reducible refine(bD.calls k _ _ l1 t104 _ ?side1 ?side2 A8.out).mono ?_);(case side1=>repeat(first|exact HR1.out|(with_reducible refine Kd.C_alloc ?_ _)|(with_reducible refine Kd.C_drewN ?_ _)|(with_reducible refine Kd.C_drew ?_)));(case side2=>exact HC1.out);rintro e w64 ⟨rfl,hb⟩;refine⟨_,rfl,?_⟩;replace HB:=zA (zV qB hb);(try clear hb))|((with_reducible refine zJq (f:=107) rfl ?_);refine goesL_ (some 38) rfl rfl Try.func107 (by kernel_rfl) rfl #[.int .i64 a0,.int .i64 t101,.slice A1 l1.length c1] rfl qG ?_;(with_reducible refine(bO.calls k a0 t101 _ _ l1 t126 t127 t128 t129 _ ?side1 ?side2 A42.out).mono ?_);(case side1=>exact qC (Kd.C_below HR1.out HB.out));(case side2=>exact HC1.out);rintro e w65 ⟨v130,v132,rfl,ho0,ho1,hb⟩;refine⟨_,rfl,?_⟩;have HO131:=zA (Kd.R_lower ho0 (zW qB));have HO133:=zA (Kd.R_lower ho1 (zW qB));replace HB:=zA (zV qB hb);(try clear hb);(try clear ho0);(try clear ho1))|((with_reducible refine gate_dst (N:=9) rfl ?_);refine box_event qr (N:=9) qr (cs:= #[.slice none 0 0]) (t:=22) qg ?_;intro gb134 hg w66 hbox hb;replace HO131:=zA (Kd.R_below (qR_ HO131.out) hb);replace HO133:=zA (Kd.R_below (qR_ HO133.out) hb);have BK134:=zA (hbox);have GW134:=zA ((qS:w.heap.size≤gb134));have GE134:=zA ((qS:w.heap.size≤gb134));replace HB:=zA (zV qB hb);clear hb hbox hg;obtain⟨Ao67,co67,eo67⟩:=Kd.R_slice HO133.out;subst eo67;have hcz68_0:w66.cell? ⟨gb134,0,none⟩=some (.slice none 0 0):=(zF BK134.out 0).trans rfl;have hfz68_0:=zG BK134.out 0))
   go_ret2;exact⟨_,qE,qN,qB⟩
  replace c7:=Bool.eq_false_iff.mpr c7;subst c7;have H1:(some (([] :List Int),8))=some (r1,r2):=by first|(rw[if_neg (show ¬ (false=true) by decide)] at H;exact H)|rfl
  clear H;have H:=H1;clear H1;simp only[zNq,zOq] at H;obtain⟨rfl,rfl⟩:=H;go_enter Try.func51,Try.ntmps51;go_wp2_with (first|((with_reducible refine zJq (f:=57) rfl ?_);refine goesL_ (some 15) rfl rfl Try.func57 (by kernel_rfl) rfl #[.slice A1 l1.length c1] rfl qG ?_;(with_reducible refine(bI.calls k _ _ l1 t101 t102 _ ?side1 ?side2 A3.out).mono ?_);(case side1=>repeat(first|exact HR1.out|(with_reducible refine Kd.C_alloc ?_ _)|(with_reducible refine Kd.C_drewN ?_ _)|(with_reducible refine Kd.C_drew ?_)));(case side2=>exact HC1.out);rintro e w' ⟨rfl,⟨nd,rfl⟩⟩;refine⟨_,rfl,?_⟩)|(go_at_call 31;(with_reducible refine(bK.calls a0 false _ A6.out).mono ?_);rintro e w' ⟨rfl,⟨nd,rfl⟩⟩));go_ret2;exact⟨_,qE,qN,qB⟩
 rw[if_neg c4] at H
 have c4b0:(t102==0)=false:=beq_eq_false_iff_ne.mpr c4
 have c4b1:(t102 != 0)=true:=bne_iff_ne.mpr c4
 simp only[zNq,zOq] at H
 obtain⟨rfl,rfl⟩:=H
 go_enter Try.func51,Try.ntmps51
 go_wp2_with (first|((with_reducible refine zJq (f:=57) rfl ?_);refine goesL_ (some 15) rfl rfl Try.func57 (by kernel_rfl) rfl #[.slice A1 l1.length c1] rfl qG ?_;(with_reducible refine(bI.calls k _ _ l1 t101 t102 _ ?side1 ?side2 A3.out).mono ?_);(case side1=>repeat(first|exact HR1.out|(with_reducible refine Kd.C_alloc ?_ _)|(with_reducible refine Kd.C_drewN ?_ _)|(with_reducible refine Kd.C_drew ?_)));(case side2=>exact HC1.out);rintro e w' ⟨rfl,⟨nd,rfl⟩⟩;refine⟨_,rfl,?_⟩))
 go_ret2
 exact⟨_,qE,qN,qB⟩
def dE.f (a0_0:Int) (a0_1:Int) (a0_2:Int) (a0_3:Int) (l0_4:List ByteArray):Option (Int):=some a0_1
theorem dE.calls (a0_0:Int) (a0_1:Int) (a0_2:Int) (a0_3:Int) (A0_4:Option Addr) (c0_4:Nat) (l0_4:List ByteArray) (r:Int) (w:World) (hr0_4:Kd.C Kd.string w A0_4 l0_4.length l0_4) (hc0_4:l0_4.length≤c0_4) (h:dE.f a0_0 a0_1 a0_2 a0_3 l0_4=some r):
  Calls Try.prog 113 #[.agg #[.int .i64 a0_0,.int .i64 a0_1,.int .i64 a0_2,.int .i64 a0_3,.slice A0_4 l0_4.length c0_4]] w fun e w'=>e= .returned (.int .i64 r)∧Below w.heap.size w w':=by
 have hu71:=Try.underlying71
 have HR0_4:=zA hr0_4
 have HC0_4:=zA hc0_4
 clear hr0_4 hc0_4
 have HB:=zA (Below.refl w.heap.size w)
 have H:(some a0_1)=some r:=h
 clear h
 obtain rfl:=zKq H
 go_enter Try.func113,Try.ntmps113
 go_wp2_with (first|((with_reducible refine gate_dst (N:=1) rfl ?_);refine box_event qr (N:=1) qr (cs:= #[.int .i64 a0_0,.int .i64 a0_1,.int .i64 a0_2,.int .i64 a0_3,.slice A0_4 l0_4.length c0_4]) (t:=71) qg ?_;intro gb101 hg w2 hbox hb;have BK101:=zA (hbox);have GW101:=zA ((qS:w.heap.size≤gb101));have GE101:=zA ((qS:w.heap.size≤gb101));replace HB:=zA (zV qB hb);clear hb hbox hg;obtain⟨_,_,_,_,_,_,_,_,_,_⟩:=qc5f BK101.out))
 go_ret
 exact⟨qE,qB⟩
def aU.l0:Nat→List Int→List (S71)→Int→Int→Option (List Int)
  |0,_,_,_,_=>none
  |k+1,x5,x11,x12,x13=>if x13 < x12 then(if 0≤x13 then(if x13 < (x11.length:Int)then((dE.f ((rd_T71 x11 x13).f0) ((rd_T71 x11 x13).f1) ((rd_T71 x11 x13).f2) ((rd_T71 x11 x13).f3) ((rd_T71 x11 x13).f4)).bind fun t106=> (if x13 < (x5.length:Int)then(aU.l0 k (x5.set (x13:Int).toNat t106) x11 x12 (wrap64 (x13+1)))else(none)))else(none))else(none))else(some x5)
def aU.f (k:Nat) (l0:List (S71)):Option (List Int):=if 0≤(l0.length:Int)then(if((l0.length:Int):Int).toNat≤35184372088832 then(aU.l0 k (List.replicate ((l0.length:Int):Int).toNat 0) l0 (l0.length:Int) 0)else(none))else(none)
theorem aU.mono_l: ∀ k,(∀ y0 y1 y2 y3,LeO (aU.l0 k y0 y1 y2 y3) (aU.l0 (k+1) y0 y1 y2 y3))
  |0=>fun _ _ _ _ r h=>by simp[aU.l0] at h
  |k+1=>by
    have ih0:=aU.mono_l k
    intro y0 y1 y2 y3
    unfold aU.l0
    repeat' (with_reducible first|exact ih0 _ _ _ _|exact LeO.refl _|exact LeO.none _|refine LeO.ite ?_ ?_|refine LeO.bind ?_ (fun _=>?_))
theorem aU.mono: ∀ a0 k,LeO (aU.f k a0) (aU.f (k+1) a0):=by
  intro a0 k
  have ih0:=aU.mono_l k
  unfold aU.f
  repeat' (with_reducible first|exact ih0 _ _ _ _|exact LeO.refl _|exact LeO.none _|refine LeO.ite ?_ ?_|refine LeO.bind ?_ (fun _=>?_))
theorem aU.calls (k:Nat) (A0:Option Addr) (c0:Nat) (l0:List (S71)) (r:List Int) (w:World) (hr0:Kd.C k71 w A0 l0.length l0) (hc0:l0.length≤c0) (h:aU.f k l0=some r):
  Calls Try.prog 112 #[.slice A0 l0.length c0,.func (.func 113) #[] #[]] w fun e w'=> ∃ v0_:Value,e= .returned (v0_)∧Kd.R (Kd.int .i64) 3 w' w.heap.size (fun _=>True) v0_ r∧Below w.heap.size w w':=by
 have hu71:=Try.underlying71
 have HR0:=zA hr0
 have HC0:=zA hc0
 clear hr0 hc0
 have HB:=zA (Below.refl w.heap.size w)
 have H:(if 0≤(l0.length:Int)then(if((l0.length:Int):Int).toNat≤35184372088832 then(aU.l0 k (List.replicate ((l0.length:Int):Int).toNat 0) l0 (l0.length:Int) 0)else(none))else(none))=some r:=h
 clear h
 by_cases c3:0≤(l0.length:Int)
 ·rw[if_pos c3] at H
  have c3b0:=eq_true c3;have c3b1:=zFq c3;clear c3;by_cases c4:((l0.length:Int):Int).toNat≤35184372088832
  ·rw[if_pos c4] at H
   have c4b0:=eq_true c4;have c4b1:=zFq c4;clear c4;obtain⟨y101,hy101⟩: ∃ y_:List Int,y_=(List.replicate ((l0.length:Int):Int).toNat 0):=⟨_,rfl⟩
   replace H:(aU.l0 k y101 l0 (l0.length:Int) 0)=some r:=by first|(rw[hy101];with_reducible exact H)|(have H2_:=(Option.bind_some _ _).symm.trans H;rw[hy101];with_reducible exact H2_)|(have H2_:=(Option.bind_some _ _).symm.trans H;with_reducible exact H2_)|with_reducible exact H|(rw[hy101];exact H)|exact H
   have Ny101:=zA hy101;clear hy101;have H':=zA H;clear H;go_enter Try.func112,Try.ntmps112;go_wp2_with (first|((with_reducible refine gate_dst (N:=10) rfl ?_);refine Kd.R_make (Kd.int .i64) _ 3 rfl (N:=10) rfl 22 _ _ rfl (l0.length:Int) rfl rfl Try.underlying22 (.int .i64 0) 8 info3 rfl (by decide) (by omega) 0 (ok:=fun _=>True) (okp:=fun _=>True) rfl (fun _ hk=>hk) trivial (qO_) (Nat.le_trans (Nat.mul_le_mul_right _ (qO_:(l0.length:Int).toNat≤35184372088832)) (by omega)) (Below.refl _ _) (Nat.le_refl _) ?_;intro v102 w5 ho6 hb hg_ hnew_;clear hg_ hnew_;(first|rw[←Ny101.out] at ho6|(simp only[Int.reduceToNat] at ho6;rw[←Ny101.out] at ho6));have HO103:=zA (Kd.R_lower ho6 (zW qB));replace HB:=zA (zV qB hb);clear hb ho6));go_loopg[13] k (fun kq v13 w'=> ∃ (x5_1:List Int) (x13_1:Int),v13= .int .i64 x13_1∧Aside0 (aU.l0 kq x5_1 l0 (l0.length:Int) x13_1=some r)∧Aside0 (kq≤k)∧Aside0 (Kd.R (Kd.int .i64) 3 w' w.heap.size (fun _=>True) v102 x5_1)∧Aside0 (Below w.heap.size w w'))
   case atStart=>exact⟨(y101),(0),qF_,H',⟨Nat.le_refl _⟩,⟨qR_ HO103.out⟩,⟨qB⟩⟩
   case round=>
    clear H';try clear p2
    try clear c3
    try clear c3b0
    try clear c3b1
    try clear c4
    try clear c4b0
    try clear c4b1
    obtain⟨x5_1,x13_1,rfl,HA,HK1,HO_5,HB⟩:=hrel;cases gk with
    |zero=>exact absurd HA.out (by simp[aU.l0])
    |succ k1=>
     have H:=HA.out;clear HA;simp only[aU.l0] at H;by_cases c7:x13_1 < (l0.length:Int)
     ·rw[if_pos c7] at H
      have c7b0:=zFq c7;clear c7;by_cases c8:0≤x13_1
      ·rw[if_pos c8] at H
       have c8b0:=zFq c8;clear c8;by_cases c9:x13_1 < (l0.length:Int)
       ·rw[if_pos c9] at H
        have c9b0:=zFq c9;clear c9;obtain⟨t106,A10,H⟩:=qD_ H;(try dsimp only at H);by_cases c11:x13_1 < (x5_1.length:Int)
        ·rw[if_pos c11] at H
         have c11b0:=zFq c11;clear c11;obtain⟨y107,hy107⟩: ∃ y_:List Int,y_=(x5_1.set (x13_1:Int).toNat t106):=⟨_,rfl⟩
         replace H:(aU.l0 k1 y107 l0 (l0.length:Int) (wrap64 (x13_1+1)))=some r:=by first|(rw[hy107];with_reducible exact H)|(have H2_:=(Option.bind_some _ _).symm.trans H;rw[hy107];with_reducible exact H2_)|(have H2_:=(Option.bind_some _ _).symm.trans H;with_reducible exact H2_)|with_reducible exact H|(rw[hy107];exact H)|exact H
         have Ny107:=zA hy107;clear hy107;have H':=zA H;clear H;have p104:0≤(x13_1:Int):=qO_;have q104:x13_1 < (l0.length:Int):=qO_;obtain⟨ad104,A104_4,c104_4,e104,hx104_0,hx104_1,hx104_2,hx104_3,hx104_4,hl104_4,hi104_4⟩:=at_T71 HR0.out x13_1 p104 q104;cases e104
         replace hx104_0:=qU_ hx104_0;replace hx104_1:=qU_ hx104_1;replace hx104_2:=qU_ hx104_2;replace hx104_3:=qU_ hx104_3;replace hx104_4:=qU_ hx104_4;have HR104_4:=zA hi104_4;have HC104_4:=zA hl104_4;clear hi104_4 hl104_4;replace p104:=eq_true p104;replace q104:=eq_true q104;go_wp2_with (first|((with_reducible refine gate_dst (N:=7) rfl ?_);refine box_event qr (N:=7) qr (cs:= #[.int .i64 0,.int .i64 0,.int .i64 0,.int .i64 0,.slice none 0 0]) (t:=71) qg ?_;intro gb105 hg w13 hbox hb;replace HO_5:=zA (Kd.R_below (qR_ HO_5.out) hb);have BK105:=zA (hbox);have GW105:=zA ((qS:w.heap.size≤gb105));have GE105:=zA ((qS:w.heap.size≤gb105));replace HB:=zA (zV qB hb);clear hb hbox hg;obtain⟨_,_,_,_,_,_,_,_,_,_⟩:=qc5f BK105.out)|(go_at_call 113;(with_reducible refine(dE.calls ((rd_T71 l0 x13_1).f0) ((rd_T71 l0 x13_1).f1) ((rd_T71 l0 x13_1).f2) ((rd_T71 l0 x13_1).f3) _ _ ((rd_T71 l0 x13_1).f4) t106 _ ?side1 ?side2 A10.out).mono ?_);(case side1=>exact Kd.C_below HR104_4.out qB);(case side2=>exact HC104_4.out);rintro e w15 ⟨rfl,hb⟩;replace HO_5:=zA (Kd.R_below (by(with_reducible repeat(first|apply Kd.R_alloc|apply Kd.R_drewN|apply Kd.R_drew));exact(Kd.R_mono (Kd.R_far (p:=⟨gb105,4,none⟩) (Kd.R_far (p:=⟨gb105,3,none⟩) (Kd.R_far (p:=⟨gb105,2,none⟩) (Kd.R_far (p:=⟨gb105,1,none⟩) (Kd.R_far (p:=⟨gb105,0,none⟩) (Kd.R_types HO_5.out BK105.out (by decide)) (fun _ hk=>hk.2) (.int .i64 ((rd_T71 l0 x13_1).f0))) (fun _ hk=>hk.2) (.int .i64 ((rd_T71 l0 x13_1).f1))) (fun _ hk=>hk.2) (.int .i64 ((rd_T71 l0 x13_1).f2))) (fun _ hk=>hk.2) (.int .i64 ((rd_T71 l0 x13_1).f3))) (fun _ hk=>hk.2) (.slice A104_4 ((rd_T71 l0 x13_1).f4).length c104_4)) (fun _ h_=>h_.1))) hb);replace BK105:=zA (zX (g:=gb105) (o:= .cells #[.int .i64 ((rd_T71 l0 x13_1).f0),.int .i64 ((rd_T71 l0 x13_1).f1),.int .i64 ((rd_T71 l0 x13_1).f2),.int .i64 ((rd_T71 l0 x13_1).f3),.slice A104_4 ((rd_T71 l0 x13_1).f4).length c104_4] 71 (0,0)) (qV BK105.out) hb);replace HB:=zA (zV qB hb);(try clear hb);have p12:0≤(x13_1:Int):=qO_;have q12:(x13_1:Int) < ((x5_1.length:Int):Int):=qO_;obtain⟨go12,co12,eo12,gb12,gl12,cl12,HG12⟩:=Kd.R_form HO_5.out (by omega);(first|cases eo12|(injection eo12 with ea_ en_ ec_;(first|subst ea_|(injection ea_ with ea_;subst ea_));subst ec_;clear en_));have GB12:=zA gb12;have GG12:=zA HG12;clear gb12 gl12 HG12;obtain⟨hx12_0,hf12_0⟩:=Kd.R_celln 0 HO_5.out (x13_1:Int) p12 q12;replace p12:=eq_true p12;replace q12:=eq_true q12;obtain⟨hy16_,hz16_⟩:=Kd.R_celln 0 HO_5.out (x13_1:Int) (qO_) (qO_);have HP16:=Kd.R_putg HO_5.out (x13_1:Int) t106)|((with_reducible refine gate_store (t:=3) (p:=23) rfl ?_);refine store_event (t:=3) (p:=23) (v:=?vo_w17) (w1:=(w15.setCell ⟨go12,(x13_1:Int).toNat,none⟩ (.int .i64 t106))) ?hg ?ho ?hn ?hr ?_;(case ho=>rfl);(case hg=>rfl);(case hn=>rfl);(case hr=>first|(go_simp;done)|(go_simp;rfl));intro w17 hw;have hg:w15.grownBy w17 (some go12):=(by rw[hw];exact HP16.2);have hp_:Kd.R (Kd.int .i64) 3 w17 w.heap.size (fun _=>True) (.slice (some ⟨go12,0,none⟩) x5_1.length co12) y107:=(by rw[hw,Ny107.out];exact HP16.1);clear HP16;replace BK105:=zA (blk_grown (g:=gb105) (o:= .cells #[.int .i64 ((rd_T71 l0 x13_1).f0),.int .i64 ((rd_T71 l0 x13_1).f1),.int .i64 ((rd_T71 l0 x13_1).f2),.int .i64 ((rd_T71 l0 x13_1).f3),.slice A104_4 ((rd_T71 l0 x13_1).f4).length c104_4] 71 (0,0)) (qW BK105.out) hg (Kd.R_ne HO_5.out BK105.out (by decide)));replace HO_5:=zA (hp_);replace HB:=zA ((by rw[hw];exact zE (HB.out) GB12.out:Below w.heap.size w w17));clear hg hw hp_))
         go_roundg k1
         case measure=>have:=HK1.out;omega
         case rel=>exact⟨(y107),(wrap64 (x13_1+1)),qF_,H',⟨by have:=HK1.out;omega⟩,⟨qR_ HO_5.out⟩,⟨qB⟩⟩
        rw[if_neg c11] at H;exact absurd H (by simp)
       rw[if_neg c9] at H;exact absurd H (by simp)
      rw[if_neg c8] at H;exact absurd H (by simp)
     rw[if_neg c7] at H;have c7b0:=zGq c7;clear c7;obtain rfl:=zKq H;go_wp2;go_ret;exact⟨_,qE,qR_ HO_5.out,qB⟩
  rw[if_neg c4] at H;exact absurd H (by simp)
 rw[if_neg c3] at H
 exact absurd H (by simp)
def dF.f (a0_0:Int) (a0_1:Int) (a0_2:Int) (a0_3:Int) (l0_4:List ByteArray):Option (Int):=some a0_2
theorem dF.calls (a0_0:Int) (a0_1:Int) (a0_2:Int) (a0_3:Int) (A0_4:Option Addr) (c0_4:Nat) (l0_4:List ByteArray) (r:Int) (w:World) (hr0_4:Kd.C Kd.string w A0_4 l0_4.length l0_4) (hc0_4:l0_4.length≤c0_4) (h:dF.f a0_0 a0_1 a0_2 a0_3 l0_4=some r):
  Calls Try.prog 115 #[.agg #[.int .i64 a0_0,.int .i64 a0_1,.int .i64 a0_2,.int .i64 a0_3,.slice A0_4 l0_4.length c0_4]] w fun e w'=>e= .returned (.int .i64 r)∧Below w.heap.size w w':=by
 have hu71:=Try.underlying71
 have HR0_4:=zA hr0_4
 have HC0_4:=zA hc0_4
 clear hr0_4 hc0_4
 have HB:=zA (Below.refl w.heap.size w)
 have H:(some a0_2)=some r:=h
 clear h
 obtain rfl:=zKq H
 go_enter Try.func115,Try.ntmps115
 go_wp2_with (first|((with_reducible refine gate_dst (N:=1) rfl ?_);refine box_event qr (N:=1) qr (cs:= #[.int .i64 a0_0,.int .i64 a0_1,.int .i64 a0_2,.int .i64 a0_3,.slice A0_4 l0_4.length c0_4]) (t:=71) qg ?_;intro gb101 hg w2 hbox hb;have BK101:=zA (hbox);have GW101:=zA ((qS:w.heap.size≤gb101));have GE101:=zA ((qS:w.heap.size≤gb101));replace HB:=zA (zV qB hb);clear hb hbox hg;obtain⟨_,_,_,_,_,_,_,_,_,_⟩:=qc5f BK101.out))
 go_ret
 exact⟨qE,qB⟩
def bE.l0:Nat→List Int→List (S71)→Int→Int→Option (List Int)
  |0,_,_,_,_=>none
  |k+1,x5,x11,x12,x13=>if x13 < x12 then(if 0≤x13 then(if x13 < (x11.length:Int)then((dF.f ((rd_T71 x11 x13).f0) ((rd_T71 x11 x13).f1) ((rd_T71 x11 x13).f2) ((rd_T71 x11 x13).f3) ((rd_T71 x11 x13).f4)).bind fun t106=> (if x13 < (x5.length:Int)then(bE.l0 k (x5.set (x13:Int).toNat t106) x11 x12 (wrap64 (x13+1)))else(none)))else(none))else(none))else(some x5)
def bE.f (k:Nat) (l0:List (S71)):Option (List Int):=if 0≤(l0.length:Int)then(if((l0.length:Int):Int).toNat≤35184372088832 then(bE.l0 k (List.replicate ((l0.length:Int):Int).toNat 0) l0 (l0.length:Int) 0)else(none))else(none)
theorem bE.mono_l: ∀ k,(∀ y0 y1 y2 y3,LeO (bE.l0 k y0 y1 y2 y3) (bE.l0 (k+1) y0 y1 y2 y3))
  |0=>fun _ _ _ _ r h=>by simp[bE.l0] at h
  |k+1=>by
    have ih0:=bE.mono_l k
    intro y0 y1 y2 y3
    unfold bE.l0
    repeat' (with_reducible first|exact ih0 _ _ _ _|exact LeO.refl _|exact LeO.none _|refine LeO.ite ?_ ?_|refine LeO.bind ?_ (fun _=>?_))
theorem bE.mono: ∀ a0 k,LeO (bE.f k a0) (bE.f (k+1) a0):=by
  intro a0 k
  have ih0:=bE.mono_l k
  unfold bE.f
  repeat' (with_reducible first|exact ih0 _ _ _ _|exact LeO.refl _|exact LeO.none _|refine LeO.ite ?_ ?_|refine LeO.bind ?_ (fun _=>?_))
theorem bE.calls (k:Nat) (A0:Option Addr) (c0:Nat) (l0:List (S71)) (r:List Int) (w:World) (hr0:Kd.C k71 w A0 l0.length l0) (hc0:l0.length≤c0) (h:bE.f k l0=some r):
  Calls Try.prog 112 #[.slice A0 l0.length c0,.func (.func 115) #[] #[]] w fun e w'=> ∃ v0_:Value,e= .returned (v0_)∧Kd.R (Kd.int .i64) 3 w' w.heap.size (fun _=>True) v0_ r∧Below w.heap.size w w':=by
 have hu71:=Try.underlying71
 have HR0:=zA hr0
 have HC0:=zA hc0
 clear hr0 hc0
 have HB:=zA (Below.refl w.heap.size w)
 have H:(if 0≤(l0.length:Int)then(if((l0.length:Int):Int).toNat≤35184372088832 then(bE.l0 k (List.replicate ((l0.length:Int):Int).toNat 0) l0 (l0.length:Int) 0)else(none))else(none))=some r:=h
 clear h
 by_cases c3:0≤(l0.length:Int)
 ·rw[if_pos c3] at H
  have c3b0:=eq_true c3;have c3b1:=zFq c3;clear c3;by_cases c4:((l0.length:Int):Int).toNat≤35184372088832
  ·rw[if_pos c4] at H
   have c4b0:=eq_true c4;have c4b1:=zFq c4;clear c4;obtain⟨y101,hy101⟩: ∃ y_:List Int,y_=(List.replicate ((l0.length:Int):Int).toNat 0):=⟨_,rfl⟩
   replace H:(bE.l0 k y101 l0 (l0.length:Int) 0)=some r:=by first|(rw[hy101];with_reducible exact H)|(have H2_:=(Option.bind_some _ _).symm.trans H;rw[hy101];with_reducible exact H2_)|(have H2_:=(Option.bind_some _ _).symm.trans H;with_reducible exact H2_)|with_reducible exact H|(rw[hy101];exact H)|exact H
   have Ny101:=zA hy101;clear hy101;have H':=zA H;clear H;go_enter Try.func112,Try.ntmps112;go_wp2_with (first|((with_reducible refine gate_dst (N:=10) rfl ?_);refine Kd.R_make (Kd.int .i64) _ 3 rfl (N:=10) rfl 22 _ _ rfl (l0.length:Int) rfl rfl Try.underlying22 (.int .i64 0) 8 info3 rfl (by decide) (by omega) 0 (ok:=fun _=>True) (okp:=fun _=>True) rfl (fun _ hk=>hk) trivial (qO_) (Nat.le_trans (Nat.mul_le_mul_right _ (qO_:(l0.length:Int).toNat≤35184372088832)) (by omega)) (Below.refl _ _) (Nat.le_refl _) ?_;intro v102 w5 ho6 hb hg_ hnew_;clear hg_ hnew_;(first|rw[←Ny101.out] at ho6|(simp only[Int.reduceToNat] at ho6;rw[←Ny101.out] at ho6));have HO103:=zA (Kd.R_lower ho6 (zW qB));replace HB:=zA (zV qB hb);clear hb ho6));go_loopg[13] k (fun kq v13 w'=> ∃ (x5_1:List Int) (x13_1:Int),v13= .int .i64 x13_1∧Aside0 (bE.l0 kq x5_1 l0 (l0.length:Int) x13_1=some r)∧Aside0 (kq≤k)∧Aside0 (Kd.R (Kd.int .i64) 3 w' w.heap.size (fun _=>True) v102 x5_1)∧Aside0 (Below w.heap.size w w'))
   case atStart=>exact⟨(y101),(0),qF_,H',⟨Nat.le_refl _⟩,⟨qR_ HO103.out⟩,⟨qB⟩⟩
   case round=>
    clear H';try clear p2
    try clear c3
    try clear c3b0
    try clear c3b1
    try clear c4
    try clear c4b0
    try clear c4b1
    obtain⟨x5_1,x13_1,rfl,HA,HK1,HO_5,HB⟩:=hrel;cases gk with
    |zero=>exact absurd HA.out (by simp[bE.l0])
    |succ k1=>
     have H:=HA.out;clear HA;simp only[bE.l0] at H;by_cases c7:x13_1 < (l0.length:Int)
     ·rw[if_pos c7] at H
      have c7b0:=zFq c7;clear c7;by_cases c8:0≤x13_1
      ·rw[if_pos c8] at H
       have c8b0:=zFq c8;clear c8;by_cases c9:x13_1 < (l0.length:Int)
       ·rw[if_pos c9] at H
        have c9b0:=zFq c9;clear c9;obtain⟨t106,A10,H⟩:=qD_ H;(try dsimp only at H);by_cases c11:x13_1 < (x5_1.length:Int)
        ·rw[if_pos c11] at H
         have c11b0:=zFq c11;clear c11;obtain⟨y107,hy107⟩: ∃ y_:List Int,y_=(x5_1.set (x13_1:Int).toNat t106):=⟨_,rfl⟩
         replace H:(bE.l0 k1 y107 l0 (l0.length:Int) (wrap64 (x13_1+1)))=some r:=by first|(rw[hy107];with_reducible exact H)|(have H2_:=(Option.bind_some _ _).symm.trans H;rw[hy107];with_reducible exact H2_)|(have H2_:=(Option.bind_some _ _).symm.trans H;with_reducible exact H2_)|with_reducible exact H|(rw[hy107];exact H)|exact H
         have Ny107:=zA hy107;clear hy107;have H':=zA H;clear H;have p104:0≤(x13_1:Int):=qO_;have q104:x13_1 < (l0.length:Int):=qO_;obtain⟨ad104,A104_4,c104_4,e104,hx104_0,hx104_1,hx104_2,hx104_3,hx104_4,hl104_4,hi104_4⟩:=at_T71 HR0.out x13_1 p104 q104;cases e104
         replace hx104_0:=qU_ hx104_0;replace hx104_1:=qU_ hx104_1;replace hx104_2:=qU_ hx104_2;replace hx104_3:=qU_ hx104_3;replace hx104_4:=qU_ hx104_4;have HR104_4:=zA hi104_4;have HC104_4:=zA hl104_4;clear hi104_4 hl104_4;replace p104:=eq_true p104;replace q104:=eq_true q104;go_wp2_with (first|((with_reducible refine gate_dst (N:=7) rfl ?_);refine box_event qr (N:=7) qr (cs:= #[.int .i64 0,.int .i64 0,.int .i64 0,.int .i64 0,.slice none 0 0]) (t:=71) qg ?_;intro gb105 hg w13 hbox hb;replace HO_5:=zA (Kd.R_below (qR_ HO_5.out) hb);have BK105:=zA (hbox);have GW105:=zA ((qS:w.heap.size≤gb105));have GE105:=zA ((qS:w.heap.size≤gb105));replace HB:=zA (zV qB hb);clear hb hbox hg;obtain⟨_,_,_,_,_,_,_,_,_,_⟩:=qc5f BK105.out)|(go_at_call 115;(with_reducible refine(dF.calls ((rd_T71 l0 x13_1).f0) ((rd_T71 l0 x13_1).f1) ((rd_T71 l0 x13_1).f2) ((rd_T71 l0 x13_1).f3) _ _ ((rd_T71 l0 x13_1).f4) t106 _ ?side1 ?side2 A10.out).mono ?_);(case side1=>exact Kd.C_below HR104_4.out qB);(case side2=>exact HC104_4.out);rintro e w15 ⟨rfl,hb⟩;replace HO_5:=zA (Kd.R_below (by(with_reducible repeat(first|apply Kd.R_alloc|apply Kd.R_drewN|apply Kd.R_drew));exact(Kd.R_mono (Kd.R_far (p:=⟨gb105,4,none⟩) (Kd.R_far (p:=⟨gb105,3,none⟩) (Kd.R_far (p:=⟨gb105,2,none⟩) (Kd.R_far (p:=⟨gb105,1,none⟩) (Kd.R_far (p:=⟨gb105,0,none⟩) (Kd.R_types HO_5.out BK105.out (by decide)) (fun _ hk=>hk.2) (.int .i64 ((rd_T71 l0 x13_1).f0))) (fun _ hk=>hk.2) (.int .i64 ((rd_T71 l0 x13_1).f1))) (fun _ hk=>hk.2) (.int .i64 ((rd_T71 l0 x13_1).f2))) (fun _ hk=>hk.2) (.int .i64 ((rd_T71 l0 x13_1).f3))) (fun _ hk=>hk.2) (.slice A104_4 ((rd_T71 l0 x13_1).f4).length c104_4)) (fun _ h_=>h_.1))) hb);replace BK105:=zA (zX (g:=gb105) (o:= .cells #[.int .i64 ((rd_T71 l0 x13_1).f0),.int .i64 ((rd_T71 l0 x13_1).f1),.int .i64 ((rd_T71 l0 x13_1).f2),.int .i64 ((rd_T71 l0 x13_1).f3),.slice A104_4 ((rd_T71 l0 x13_1).f4).length c104_4] 71 (0,0)) (qV BK105.out) hb);replace HB:=zA (zV qB hb);(try clear hb);have p12:0≤(x13_1:Int):=qO_;have q12:(x13_1:Int) < ((x5_1.length:Int):Int):=qO_;obtain⟨go12,co12,eo12,gb12,gl12,cl12,HG12⟩:=Kd.R_form HO_5.out (by omega);(first|cases eo12|(injection eo12 with ea_ en_ ec_;(first|subst ea_|(injection ea_ with ea_;subst ea_));subst ec_;clear en_));have GB12:=zA gb12;have GG12:=zA HG12;clear gb12 gl12 HG12;obtain⟨hx12_0,hf12_0⟩:=Kd.R_celln 0 HO_5.out (x13_1:Int) p12 q12;replace p12:=eq_true p12;replace q12:=eq_true q12;obtain⟨hy16_,hz16_⟩:=Kd.R_celln 0 HO_5.out (x13_1:Int) (qO_) (qO_);have HP16:=Kd.R_putg HO_5.out (x13_1:Int) t106)|((with_reducible refine gate_store (t:=3) (p:=23) rfl ?_);refine store_event (t:=3) (p:=23) (v:=?vo_w17) (w1:=(w15.setCell ⟨go12,(x13_1:Int).toNat,none⟩ (.int .i64 t106))) ?hg ?ho ?hn ?hr ?_;(case ho=>rfl);(case hg=>rfl);(case hn=>rfl);(case hr=>first|(go_simp;done)|(go_simp;rfl));intro w17 hw;have hg:w15.grownBy w17 (some go12):=(by rw[hw];exact HP16.2);have hp_:Kd.R (Kd.int .i64) 3 w17 w.heap.size (fun _=>True) (.slice (some ⟨go12,0,none⟩) x5_1.length co12) y107:=(by rw[hw,Ny107.out];exact HP16.1);clear HP16;replace BK105:=zA (blk_grown (g:=gb105) (o:= .cells #[.int .i64 ((rd_T71 l0 x13_1).f0),.int .i64 ((rd_T71 l0 x13_1).f1),.int .i64 ((rd_T71 l0 x13_1).f2),.int .i64 ((rd_T71 l0 x13_1).f3),.slice A104_4 ((rd_T71 l0 x13_1).f4).length c104_4] 71 (0,0)) (qW BK105.out) hg (Kd.R_ne HO_5.out BK105.out (by decide)));replace HO_5:=zA (hp_);replace HB:=zA ((by rw[hw];exact zE (HB.out) GB12.out:Below w.heap.size w w17));clear hg hw hp_))
         go_roundg k1
         case measure=>have:=HK1.out;omega
         case rel=>exact⟨(y107),(wrap64 (x13_1+1)),qF_,H',⟨by have:=HK1.out;omega⟩,⟨qR_ HO_5.out⟩,⟨qB⟩⟩
        rw[if_neg c11] at H;exact absurd H (by simp)
       rw[if_neg c9] at H;exact absurd H (by simp)
      rw[if_neg c8] at H;exact absurd H (by simp)
     rw[if_neg c7] at H;have c7b0:=zGq c7;clear c7;obtain rfl:=zKq H;go_wp2;go_ret;exact⟨_,qE,qR_ HO_5.out,qB⟩
  rw[if_neg c4] at H;exact absurd H (by simp)
 rw[if_neg c3] at H
 exact absurd H (by simp)
mutual
def bA.j0:Nat→Int→Int→List (S71)→Int→Bool→Option ((List (S71)) × Int)
  |0,_,_,_,_,_=>none
  |k+1,x1,x2,x8,x10,x34=>if x34=true then(some (([] :List (S71)),8))else(if x1 > x10 then(some (([] :List (S71)),34))else((aU.f k x8).bind fun t112=> ((bM.f k x1 t112).bind fun bt115=> (if bt115.2=0 then(bA.l0 k x2 x8 bt115.1 (x8.length:Int) 0)else(some (([] :List (S71)),bt115.2))))))
def bA.l0:Nat→Int→List (S71)→List Int→Int→Int→Option ((List (S71)) × Int)
  |0,_,_,_,_,_=>none
  |k+1,x2,x8,x11,x58,x59=>if x59 < x58 then(if 0≤x59 then(if x59 < (x8.length:Int)then(if x59 < (x11.length:Int)then(bA.l0 k x2 (x8.set (x59:Int).toNat (⟨(rd_T71 x8 x59).f0,(rd_T71 x8 x59).f1,wrap64 (((rd_T71 x8 x59).f1) - (rd x11 x59)),(rd_T71 x8 x59).f3,(rd_T71 x8 x59).f4⟩:S71)) x11 x58 (wrap64 (x59+1)))else(none))else(none))else(none))else((bE.f k x8).bind fun t122=> ((bM.f k x2 t122).bind fun bt125=> (if bt125.2=0 then(bA.l1 k x8 bt125.1 (x8.length:Int) 0)else(some (([] :List (S71)),bt125.2)))))
def bA.l1:Nat→List (S71)→List Int→Int→Int→Option ((List (S71)) × Int)
  |0,_,_,_,_=>none
  |k+1,x8,x13,x88,x89=>if x89 < x88 then(if 0≤x89 then(if x89 < (x13.length:Int)then(if x89 < (x8.length:Int)then((some (x8.set (x89:Int).toNat (⟨(rd_T71 x8 x89).f0,(rd_T71 x8 x89).f1,(rd_T71 x8 x89).f2,rd x13 x89,(rd_T71 x8 x89).f4⟩:S71):List (S71))).bind fun y130=> ((bJ.f k ((rd_T71 y130 x89).f0) ((rd_T71 y130 x89).f1) ((rd_T71 y130 x89).f2) ((rd_T71 y130 x89).f3) ((rd_T71 y130 x89).f4)).bind fun t132=> (if t132=0 then(bA.l1 k y130 x13 x88 (wrap64 (x89+1)))else(some (([] :List (S71)),t132)))))else(none))else(none))else(none))else(some (x8,0))
end
def bA.f (k:Nat) (l0:List (S71)) (a1:Int) (a2:Int):Option ((List (S71)) × Int):=(bL.f k l0).bind fun bt101=> (if bt101.2=0 then((aU.f k bt101.1).bind fun t105=> ((aZ.f k t105).bind fun bt108=> (if bt108.2=0 then((cB.f a1).bind fun t110=> (if t110=true then((cB.f a2).bind fun t111=> (bA.j0 k a1 a2 bt101.1 bt108.1 (!t111)))else(bA.j0 k a1 a2 bt101.1 bt108.1 true)))else(some (([] :List (S71)),bt108.2)))))else(some (([] :List (S71)),bt101.2)))
theorem bA.mono_l: ∀ k,(∀ y0 y1 y2 y3 y4,LeO (bA.j0 k y0 y1 y2 y3 y4) (bA.j0 (k+1) y0 y1 y2 y3 y4))∧(∀ y0 y1 y2 y3 y4,LeO (bA.l0 k y0 y1 y2 y3 y4) (bA.l0 (k+1) y0 y1 y2 y3 y4))∧(∀ y0 y1 y2 y3,LeO (bA.l1 k y0 y1 y2 y3) (bA.l1 (k+1) y0 y1 y2 y3))
  |0=> ⟨fun _ _ _ _ _ r h=>by simp[bA.j0] at h,fun _ _ _ _ _ r h=>by simp[bA.l0] at h,fun _ _ _ _ r h=>by simp[bA.l1] at h⟩
  |k+1=>by
    obtain⟨ih0,ih1,ih2⟩:=bA.mono_l k
    refine⟨?_,?_,?_⟩
    · intro y0 y1 y2 y3 y4
      unfold bA.j0
      repeat' (with_reducible first|exact ih0 _ _ _ _ _|exact ih1 _ _ _ _ _|exact ih2 _ _ _ _|exact aZ.mono _ _|exact bJ.mono _ _ _ _ _ _|exact bL.mono _ _|exact aU.mono _ _|exact bE.mono _ _|exact bM.mono _ _ _|exact LeO.refl _|exact LeO.none _|refine LeO.ite ?_ ?_|refine LeO.bind ?_ (fun _=>?_))
    · intro y0 y1 y2 y3 y4
      unfold bA.l0
      repeat' (with_reducible first|exact ih0 _ _ _ _ _|exact ih1 _ _ _ _ _|exact ih2 _ _ _ _|exact aZ.mono _ _|exact bJ.mono _ _ _ _ _ _|exact bL.mono _ _|exact aU.mono _ _|exact bE.mono _ _|exact bM.mono _ _ _|exact LeO.refl _|exact LeO.none _|refine LeO.ite ?_ ?_|refine LeO.bind ?_ (fun _=>?_))
    intro y0 y1 y2 y3
    unfold bA.l1
    repeat' (with_reducible first|exact ih0 _ _ _ _ _|exact ih1 _ _ _ _ _|exact ih2 _ _ _ _|exact aZ.mono _ _|exact bJ.mono _ _ _ _ _ _|exact bL.mono _ _|exact aU.mono _ _|exact bE.mono _ _|exact bM.mono _ _ _|exact LeO.refl _|exact LeO.none _|refine LeO.ite ?_ ?_|refine LeO.bind ?_ (fun _=>?_))
theorem bA.mono: ∀ a0 a1 a2 k,LeO (bA.f k a0 a1 a2) (bA.f (k+1) a0 a1 a2):=by
  intro a0 a1 a2 k
  obtain⟨ih0,ih1,ih2⟩:=bA.mono_l k
  unfold bA.f
  repeat' (with_reducible first|exact ih0 _ _ _ _ _|exact ih1 _ _ _ _ _|exact ih2 _ _ _ _|exact aZ.mono _ _|exact bJ.mono _ _ _ _ _ _|exact bL.mono _ _|exact aU.mono _ _|exact bE.mono _ _|exact bM.mono _ _ _|exact LeO.refl _|exact LeO.none _|refine LeO.ite ?_ ?_|refine LeO.bind ?_ (fun _=>?_))
def bA.T17:Bool × List (List Nat × List Nat):=(true,[([],[]),([],[]),([],[]),([],[]),([2,3],[2,3]),([4],[4]),([5],[5]),([],[]),([],[]),([7,8],[7,8]),([9],[9]),([6,10],[6,10]),([0,1,0,1,2,3,4,5,6,7,8,9,10,11],[0,1]),([12,0,1,2,3,4,5,6,7,8,9,10,11],[12]),([13,11,0,1,2,3,4,5,6,7,8,9,10,11],[11,13])])
def bA.B17:List Nat:=[0,0,0,0,12,28,60,0,0,384,896,2044,4095,8191,16383]
theorem bA.tab17:rtab .any (opsOf Try.f62 17)=bA.T17:=by kernel_rfl
theorem bA.bits17:waitsOk bA.T17.2 bA.B17=true:=by kernel_rfl
theorem bA.calls (k:Nat) (P0_:Nat→Prop) (A0:Option Addr) (c0:Nat) (l0:List (S71)) (a1:Int) (a2:Int) (r1:List (S71)) (r2:Int) (w:World) (hs0:Kd.V k71 71 w w.heap.size (fun k_=>P0_ k_) (.slice A0 l0.length c0) l0) (h:bA.f k l0 a1 a2=some (r1,r2)):
  Calls Try.prog 62 #[.slice A0 l0.length c0,.int .i64 a1,.int .i64 a2] w fun e w'=> ∃ v0_:Value,e= .returned (.tuple #[v0_,.int .i64 r2])∧Kd.N k71 71 w' w.heap.size (fun k_=> (P0_ k_∨w.heap.size≤k_)) v0_ r1∧Below w.heap.size w w':=by
 have hu71:=Try.underlying71
 have HO0:=zA (show Kd.V k71 71 w w.heap.size (fun k_=> (P0_ k_∨w.heap.size≤k_)) (.slice A0 l0.length c0) l0 from Kd.V_mono hs0 (fun k_ hk=> .inl hk))
 have HB:=zA (Below.refl w.heap.size w)
 have H:((bL.f k l0).bind fun bt101=> (if bt101.2=0 then((aU.f k bt101.1).bind fun t105=> ((aZ.f k t105).bind fun bt108=> (if bt108.2=0 then((cB.f a1).bind fun t110=> (if t110=true then((cB.f a2).bind fun t111=> (bA.j0 k a1 a2 bt101.1 bt108.1 (!t111)))else(bA.j0 k a1 a2 bt101.1 bt108.1 true)))else(some (([] :List (S71)),bt108.2)))))else(some (([] :List (S71)),bt101.2))))=some (r1,r2):=h
 clear h
 obtain⟨⟨t101,t104⟩,A4,H⟩:=qD_ H
 (try dsimp only at H)
 by_cases c5:t104=0
 ·rw[if_pos c5] at H
  have c5b0:(t104==0)=true:=beq_iff_eq.mpr c5;have c5b1:(t104 != 0)=false:=bne_eq_false_iff_eq.mpr c5;clear c5;obtain⟨t105,A6,H⟩:=qD_ H;(try dsimp only at H);obtain⟨⟨t108,t109⟩,A7,H⟩:=qD_ H;(try dsimp only at H);by_cases c8:t109=0
  ·rw[if_pos c8] at H
   have c8b0:(t109==0)=true:=beq_iff_eq.mpr c8;have c8b1:(t109 != 0)=false:=bne_eq_false_iff_eq.mpr c8;clear c8;have HC9:=zA H;clear H;go_enter Try.func62,Try.ntmps62;go_upto_region 7 with(first|((with_reducible refine zJq (f:=111) rfl ?_);refine goesL_ (some 18) rfl rfl Try.func111 (by kernel_rfl) rfl #[.slice A0 l0.length c0] rfl qG ?_;(with_reducible refine(bL.calls k (fun k_=> (P0_ k_∨w.heap.size≤k_)) _ _ l0 t101 t104 _ ?side1 A4.out).mono ?_);(case side1=>exact HO0.out);rintro e w10 ⟨v102,rfl,ho0,hb⟩;refine⟨_,rfl,?_⟩;replace HO0:=zA (Kd.V_elder' (qV_ HO0.out) (Kd.N_base ho0) hb);have HO103:=zA (Kd.N_lower (Kd.N_mono (ok':=fun k_=> (P0_ k_∨w.heap.size≤k_)) ho0 (fun k_ hk_=>Or.elim hk_ (fun hs_=>hs_) (fun hn_=> (.inr (Nat.le_trans (zW qB) hn_))))) (zW qB));replace HB:=zA (zV qB hb);(try clear hb);(try clear ho0);obtain⟨Ao11,co11,eo11⟩:=Kd.N_slice HO103.out;subst eo11)|(go_at_call 112;(with_reducible refine(aU.calls k _ _ t101 t105 _ ?side1 ?side2 A6.out).mono ?_);(case side1=>repeat(first|exact(Kd.N_reads' HO103.out).2.2|(with_reducible refine Kd.C_alloc ?_ _)|(with_reducible refine Kd.C_drewN ?_ _)|(with_reducible refine Kd.C_drew ?_)));(case side2=>exact(Kd.N_reads' HO103.out).2.1);rintro e w12 ⟨v106,rfl,ho0,hb⟩;replace HO0:=zA (Kd.V_elder' (qV_ HO0.out) (Kd.R_base ho0) hb);replace HO103:=zA (Kd.N_elder' (qN_ HO103.out) (Kd.R_base ho0) hb);have HO107:=zA (Kd.R_lower (Kd.R_newM (M:=fun k_=> (w.heap.size≤k_)) ho0 (zW qB) (fun k_ h_=>h_)) (zW qB));replace HB:=zA (zV qB hb);(try clear hb);(try clear ho0);obtain⟨Ao13,co13,eo13⟩:=Kd.R_slice HO107.out;subst eo13)|((with_reducible refine zJq (f:=25) rfl ?_);refine goesL_ (some 27) rfl rfl Try.func25 (by kernel_rfl) rfl #[.slice Ao13 t105.length co13] rfl qG ?_;(with_reducible refine(aZ.calls k _ _ t105 t108 t109 _ ?side1 ?side2 A7.out).mono ?_);(case side1=>repeat(first|exact(Kd.R_reads' HO107.out).2.2|(with_reducible refine Kd.C_alloc ?_ _)|(with_reducible refine Kd.C_drewN ?_ _)|(with_reducible refine Kd.C_drew ?_)));(case side2=>exact(Kd.R_reads' HO107.out).2.1);rintro e w' ⟨rfl,⟨nd,rfl⟩⟩;refine⟨_,rfl,?_⟩))
   (try simp only[Act.put,zH,zI,zJ])
   go_cut[34] (fun v34 wc=> ∃ (kq:Nat) (x34_8:Bool),v34= .bool x34_8∧Aside0 (bA.j0 kq a1 a2 t101 t108 x34_8=some (r1,r2))∧Aside0 (kq≤k)∧Aside0 (Kd.N k71 71 wc w.heap.size (fun k_=> (P0_ k_∨w.heap.size≤k_)) (.slice Ao11 t101.length co11) t101)∧Aside0 (Below w.heap.size w wc))
   case first=>
    have H:=HC9.out;clear HC9;obtain⟨t110,A14,H⟩:=qD_ H;(try dsimp only at H);by_cases c15:t110=true
    ·subst c15
     have H1:((cB.f a2).bind fun t111=> (bA.j0 k a1 a2 t101 t108 (!t111)))=some (r1,r2):=by first|(rw[if_pos rfl] at H;exact H)|rfl
     clear H;have H:=H1;clear H1;obtain⟨t111,A16,H⟩:=qD_ H;(try dsimp only at H);have H':=zA H;clear H;go_wp2_with (first|((with_reducible refine zJq (f:=114) rfl ?_);refine goesL_ (some 36) rfl rfl Try.func114 (by kernel_rfl) rfl #[.int .i64 a1] rfl qG ?_;(with_reducible refine(cB.calls a1 true _ A14.out).mono ?_);rintro e w' ⟨rfl,⟨nd,rfl⟩⟩;refine⟨_,rfl,?_⟩)|(go_at_call 114;(with_reducible refine(cB.calls a2 t111 _ A16.out).mono ?_);rintro e w' ⟨rfl,⟨nd,rfl⟩⟩));go_meet
     case rel=>exact⟨_,(!t111),qF_,H',⟨by first|omega|exact Nat.le_refl _⟩,⟨by(with_reducible repeat(first|apply Kd.N_alloc|apply Kd.N_drewN|apply Kd.N_drew));exact Kd.N_mono HO103.out (fun _ hk=>hk.1)⟩,⟨qB⟩⟩
    replace c15:=Bool.eq_false_iff.mpr c15;subst c15;have H1:(bA.j0 k a1 a2 t101 t108 true)=some (r1,r2):=by first|(rw[if_neg (show ¬ (false=true) by decide)] at H;exact H)|rfl
    clear H;have H:=H1;clear H1;have H':=zA H;clear H;go_wp2_with (first|((with_reducible refine zJq (f:=114) rfl ?_);refine goesL_ (some 36) rfl rfl Try.func114 (by kernel_rfl) rfl #[.int .i64 a1] rfl qG ?_;(with_reducible refine(cB.calls a1 false _ A14.out).mono ?_);rintro e w' ⟨rfl,⟨nd,rfl⟩⟩;refine⟨_,rfl,?_⟩));go_meet
    case rel=>exact⟨_,(true),qF_,H',⟨by first|omega|exact Nat.le_refl _⟩,⟨by(with_reducible repeat(first|apply Kd.N_alloc|apply Kd.N_drewN|apply Kd.N_drew));exact Kd.N_mono HO103.out (fun _ hk=>hk.1)⟩,⟨qB⟩⟩
   case rest=>
    clear HC9;try clear c1
    try clear c2
    try clear p2
    try clear c5
    try clear c5b0
    try clear c5b1
    try clear c6
    try clear c8
    try clear c8b0
    try clear c8b1
    try clear c11
    try clear c15
    obtain⟨kq,x34_8,rfl,HA,HJ8,HO_8,HB⟩:=hcut;cases kq with
    |zero=>exact absurd HA.out (by simp[bA.j0])
    |succ kj8=>
     have H:=HA.out;clear HA;simp only[bA.j0] at H;by_cases c17:x34_8=true
     ·subst c17
      have H1:(some (([] :List (S71)),8))=some (r1,r2):=by first|(rw[if_pos rfl] at H;exact H)|rfl
      clear H;have H:=H1;clear H1;simp only[zNq,zOq] at H;obtain⟨rfl,rfl⟩:=H;go_wp2;go_ret2;exact⟨_,qE,by first|exact Kd.S_nil _ _ _ _ _|exact Kd.N_nil _ _ _ _ _|exact Kd.V_nil _ _ _ _ _|exact Kd.Q_nil _ _ _ _ _|exact Kd.R_nil _ _ _ _ _,qB⟩
     replace c17:=Bool.eq_false_iff.mpr c17;subst c17;have H1:(if a1 > t108 then(some (([] :List (S71)),34))else((aU.f kj8 t101).bind fun t112=> ((bM.f kj8 a1 t112).bind fun bt115=> (if bt115.2=0 then(bA.l0 kj8 a2 t101 bt115.1 (t101.length:Int) 0)else(some (([] :List (S71)),bt115.2))))))=some (r1,r2):=by first|(rw[if_neg (show ¬ (false=true) by decide)] at H;exact H)|rfl
     clear H;have H:=H1;clear H1;by_cases c18:a1 > t108
     ·rw[if_pos c18] at H
      have c18b0:decide (t108 < a1)=true:=zFq c18;clear c18;simp only[zNq,zOq] at H;obtain⟨rfl,rfl⟩:=H;go_wp2;go_ret2;exact⟨_,qE,by first|exact Kd.S_nil _ _ _ _ _|exact Kd.N_nil _ _ _ _ _|exact Kd.V_nil _ _ _ _ _|exact Kd.Q_nil _ _ _ _ _|exact Kd.R_nil _ _ _ _ _,qB⟩
     rw[if_neg c18] at H;have c18b0:decide (t108 < a1)=false:=zGq c18;clear c18;obtain⟨t112,A19,H⟩:=qD_ H;(try dsimp only at H);obtain⟨⟨t115,t116⟩,A20,H⟩:=qD_ H;(try dsimp only at H);by_cases c21:t116=0
     ·rw[if_pos c21] at H
      have c21b0:(t116==0)=true:=beq_iff_eq.mpr c21;have c21b1:(t116 != 0)=false:=bne_eq_false_iff_eq.mpr c21;clear c21;have H':=zA H;clear H;go_wp2_with (first|(go_at_call 112;(with_reducible refine(aU.calls kj8 _ _ t101 t112 _ ?side1 ?side2 A19.out).mono ?_);(case side1=>repeat(first|exact(Kd.N_reads' HO_8.out).2.2|(with_reducible refine Kd.C_alloc ?_ _)|(with_reducible refine Kd.C_drewN ?_ _)|(with_reducible refine Kd.C_drew ?_)));(case side2=>exact(Kd.N_reads' HO_8.out).2.1);rintro e w22 ⟨v113,rfl,ho0,hb⟩;replace HO_8:=zA (Kd.N_elder' (qN_ HO_8.out) (Kd.R_base ho0) hb);have HO114:=zA (Kd.R_lower (Kd.R_newM (M:=fun k_=> (w.heap.size≤k_)) ho0 (zW qB) (fun k_ h_=>h_)) (zW qB));replace HB:=zA (zV qB hb);(try clear hb);(try clear ho0);obtain⟨Ao23,co23,eo23⟩:=Kd.R_slice HO114.out;subst eo23)|((with_reducible refine zJq (f:=51) rfl ?_);refine goesL_ (some 51) rfl rfl Try.func51 (by kernel_rfl) rfl #[.int .i64 a1,.slice Ao23 t112.length co23] rfl qG ?_;(with_reducible refine(bM.calls kj8 a1 _ _ t112 t115 t116 _ ?side1 ?side2 A20.out).mono ?_);(case side1=>repeat(first|exact(Kd.R_reads' HO114.out).2.2|(with_reducible refine Kd.C_alloc ?_ _)|(with_reducible refine Kd.C_drewN ?_ _)|(with_reducible refine Kd.C_drew ?_)));(case side2=>exact(Kd.R_reads' HO114.out).2.1);rintro e w24 ⟨v117,rfl,ho0,hb⟩;refine⟨_,rfl,?_⟩;replace HO_8:=zA (Kd.N_elder' (qN_ HO_8.out) (Kd.R_base ho0) hb);have HO118:=zA (Kd.R_lower (Kd.R_new' (Kd.R_newM (M:=fun k_=> (w.heap.size≤k_)) ho0 (zW qB) (fun k_ h_=>h_)) (Kd.R_lt (qR_ HO114.out))) (zW qB));replace HO114:=zA (Kd.R_elder' (qR_ HO114.out) (Kd.R_base ho0) hb);replace HB:=zA (zV qB hb);(try clear hb);(try clear ho0)));go_loopg[59] kj8 (fun kq v59 w'=> ∃ (x8_2:List (S71)) (x59_2:Int),v59= .int .i64 x59_2∧Aside0 (bA.l0 kq a2 x8_2 t115 (t101.length:Int) x59_2=some (r1,r2))∧Aside0 (kq≤kj8)∧Aside0 (Kd.N k71 71 w' w.heap.size (fun k_=> (P0_ k_∨w.heap.size≤k_)∧some k_≠(v117:Value).ownBlock) (.slice Ao11 t101.length co11) x8_2)∧Aside0 (Kd.R (Kd.int .i64) 3 w' w.heap.size (fun k_=> (w.heap.size≤k_)) v117 t115)∧Aside0 (Below w.heap.size w w'))
      case atStart=>exact⟨(t101),(0),qF_,H',⟨Nat.le_refl _⟩,⟨by(with_reducible repeat(first|apply Kd.N_alloc|apply Kd.N_drewN|apply Kd.N_drew));exact Kd.N_mono HO_8.out (fun _ hk=> ⟨hk.1.1,hk.2⟩)⟩,⟨by(with_reducible repeat(first|apply Kd.R_alloc|apply Kd.R_drewN|apply Kd.R_drew));exact Kd.R_mono HO118.out (fun _ hk=>hk.1.1)⟩,⟨qB⟩⟩
      case round=>
       clear H';try clear c1
       try clear c2
       try clear p2
       try clear c5
       try clear c5b0
       try clear c5b1
       try clear c6
       try clear c8
       try clear c8b0
       try clear c8b1
       try clear c11
       try clear c15
       try clear c17
       try clear c18
       try clear c18b0
       try clear c21
       try clear c21b0
       try clear c21b1
       try clear p2
       obtain⟨x8_2,x59_2,rfl,HA,HK2,HO_8,HO_11,HB⟩:=hrel;have hl8_2:=(Kd.N_reads' HO_8.out).1;rw[hl8_2] at HO_8;(try simp only[hl8_2])
       (try simp only[hl8_2] at HO_11)
       cases gk with
       |zero=>exact absurd HA.out (by simp[bA.l0])
       |succ k2=>
        have H:=HA.out;clear HA;simp only[bA.l0] at H;by_cases c25:x59_2 < (t101.length:Int)
        ·rw[if_pos c25] at H
         have c25b0:=zFq c25;try have c25e8_2:decide (x59_2 < (x8_2.length:Int))=true:=by rw[←hl8_2];exact c25b0
         clear c25;by_cases c26:0≤x59_2
         ·rw[if_pos c26] at H
          have c26b0:=zFq c26;clear c26;by_cases c27:x59_2 < (x8_2.length:Int)
          ·rw[if_pos c27] at H
           have c27b0:=zFq c27;clear c27;by_cases c28:x59_2 < (t115.length:Int)
           ·rw[if_pos c28] at H
            have c28b0:=zFq c28;try have c28e8_2:decide (x59_2 < (x8_2.length:Int))=true:=by rw[←hl8_2];exact c28b0
            clear c28;obtain⟨y121,hy121⟩: ∃ y_:List (S71),y_=(x8_2.set (x59_2:Int).toNat (⟨(rd_T71 x8_2 x59_2).f0,(rd_T71 x8_2 x59_2).f1,wrap64 (((rd_T71 x8_2 x59_2).f1) - (rd t115 x59_2)),(rd_T71 x8_2 x59_2).f3,(rd_T71 x8_2 x59_2).f4⟩:S71)):=⟨_,rfl⟩
            replace H:(bA.l0 k2 a2 y121 t115 (t101.length:Int) (wrap64 (x59_2+1)))=some (r1,r2):=by first|(rw[hy121];with_reducible exact H)|(have H2_:=(Option.bind_some _ _).symm.trans H;rw[hy121];with_reducible exact H2_)|(have H2_:=(Option.bind_some _ _).symm.trans H;with_reducible exact H2_)|with_reducible exact H|(rw[hy121];exact H)|exact H
            have Ny121:=zA hy121;clear hy121;have H':=zA H;clear H;try go_wp2
            replace HO_8:=zA (Kd.N_drew HO_8.out);replace HO_11:=zA (Kd.R_drew HO_11.out);replace HB:=zA (zC HB.out);have p119:0≤(x59_2:Int):=qO_;have q119:x59_2 < (x8_2.length:Int):=qO_;obtain⟨ad119,A119_4,c119_4,e119,hx119_0,hx119_1,hx119_2,hx119_3,hx119_4,hl119_4,hi119_4⟩:=at_T71 (Kd.N_reads' HO_8.out).2.2 x59_2 p119 q119;cases e119
            obtain⟨ce119,hce119,hMe119,hcc119⟩:=Kd.N_get HO_8.out z71 x59_2 p119 (by first|exact q119|exact qO_|(have e_:=(Kd.N_reads' HO_8.out).1;omega));obtain⟨ua119_4,uc119_4,rfl,ul119_4,ge119_4⟩:=k71_openF hMe119;have hv119_4:=hcc119 4 _ rfl;rw[add_field _ _ 4 (by omega)] at hv119_4;replace hv119_4:=zKq (hv119_4.symm.trans hx119_4);injection hv119_4 with hva_ hvn_ hvc_
            rw[hva_] at ge119_4;rw[hvc_] at ul119_4;have HL119_4:=zA (show Kd.V Kd.string 9 _ w.heap.size _ _ ((rd_T71 x8_2 x59_2).f4)from Kd.V_mk ul119_4 ge119_4);clear hva_ hvn_ hvc_ ge119_4 ul119_4;clear hcc119 hce119;have HR119_4:=zA hi119_4;have HC119_4:=zA hl119_4;clear hi119_4 hl119_4;replace p119:=eq_true p119;replace q119:=eq_true q119;obtain⟨Ao31,co31,eo31⟩:=Kd.R_slice HO_11.out;(first|subst eo31|(injection eo31 with f1_ f2_ f3_;have f4_:=f1_.symm;have f5_:=f3_.symm;clear f1_ f2_ f3_;subst f4_;subst f5_))
            have p120:0≤(x59_2:Int):=qO_;have q120:x59_2 < (t115.length:Int):=qO_;obtain⟨ad120,e120,hx120_0⟩:=Kd.at_int (Kd.R_reads' HO_11.out).2.2 x59_2 p120 q120;cases e120
            replace p120:=eq_true p120;replace q120:=eq_true q120;have p29:0≤(x59_2:Int):=qO_;have q29:(x59_2:Int) < ((x8_2.length:Int):Int):=qO_;obtain⟨go29,co29,eo29,gb29,gl29,cl29,HG29⟩:=Kd.N_form HO_8.out (by omega);(first|cases eo29|(injection eo29 with ea_ en_ ec_;(first|subst ea_|(injection ea_ with ea_;subst ea_));subst ec_;clear en_))
            have GB29:=zA gb29;have GG29:=zA HG29;clear gb29 gl29 HG29;(first|simp only[add_plain] at hx119_0|skip)
            (first|simp only[add_plain] at hx119_1|skip)
            (first|simp only[add_plain] at hx119_2|skip)
            (first|simp only[add_plain] at hx119_3|skip)
            (first|simp only[add_plain] at hx119_4|skip)
            obtain⟨ce29,hcl29,hM29,hcc29,hfr29⟩:=Kd.N_elem HO_8.out z71 (x59_2:Int) p29 q29;obtain⟨ua29_4,uc29_4,rfl,ul29_4,ge29_4⟩:=k71_openF hM29;have hx29_0:World.cell? _ ⟨go29,(x59_2:Int).toNat * 5,none⟩=some (.int .i64 ((rd_T71 x8_2 x59_2).f0)):=hcc29 0 _ rfl;have hx29_1:World.cell? _ ⟨go29,(x59_2:Int).toNat * 5+1,none⟩=some (.int .i64 ((rd_T71 x8_2 x59_2).f1)):=hcc29 1 _ rfl;have hx29_2:World.cell? _ ⟨go29,(x59_2:Int).toNat * 5+2,none⟩=some (.int .i64 ((rd_T71 x8_2 x59_2).f2)):=hcc29 2 _ rfl;have hx29_3:World.cell? _ ⟨go29,(x59_2:Int).toNat * 5+3,none⟩=some (.int .i64 ((rd_T71 x8_2 x59_2).f3)):=hcc29 3 _ rfl;have hx29_4:World.cell? _ ⟨go29,(x59_2:Int).toNat * 5+4,none⟩=some (.slice ua29_4 ((rd_T71 x8_2 x59_2).f4).length uc29_4):=hcc29 4 _ rfl;have hf29_0:World.frozen? _ ⟨go29,(x59_2:Int).toNat * 5,none⟩=false:=hfr29 0;have hf29_1:World.frozen? _ ⟨go29,(x59_2:Int).toNat * 5+1,none⟩=false:=hfr29 1;have hf29_2:World.frozen? _ ⟨go29,(x59_2:Int).toNat * 5+2,none⟩=false:=hfr29 2;have hf29_3:World.frozen? _ ⟨go29,(x59_2:Int).toNat * 5+3,none⟩=false:=hfr29 3;have hf29_4:World.frozen? _ ⟨go29,(x59_2:Int).toNat * 5+4,none⟩=false:=hfr29 4;clear hcl29 hcc29 hfr29 hM29;replace p29:=eq_true p29;replace q29:=eq_true q29;have HX32:=zA (show Kd.N k71 71 _ w.heap.size (fun k_=> (P0_ k_∨w.heap.size≤k_)∧some k_≠(.slice (some ad120) t115.length co31:Value).ownBlock) (.slice (some ⟨go29,0,none⟩) x8_2.length co11) x8_2 from(Kd.N_mono (HO_8.out) (fun k_ hk=> ⟨hk.1,hk.2⟩)));obtain⟨ce32,hcl32,hM32,hcc32,hfr32⟩:=Kd.N_elem HX32.out z71 (x59_2:Int) (qO_) (by have h_:(x59_2:Int) < ((x8_2.length:Int):Int):=qO_;first|exact h_|(have e_:=(Kd.N_reads' HO_8.out).1;omega)|simpa using h_);obtain⟨ua32_4,uc32_4,rfl,ul32_4,ge32_4⟩:=k71_openF hM32;have HP32:=(Kd.N_seg HX32.out (x59_2:Int) (qO_) (by have h_:(x59_2:Int) < ((x8_2.length:Int):Int):=qO_;first|exact h_|(have e_:=(Kd.N_reads' HO_8.out).1;omega)|simpa using h_) (seg:=[.int .i64 (wrap64 (((rd_T71 x8_2 x59_2).f1) - (rd t115 x59_2)))]) (j:=2) hcl32 hcc32 (show 3≤5 from by decide) (x':=(⟨(rd_T71 x8_2 x59_2).f0,(rd_T71 x8_2 x59_2).f1,wrap64 (((rd_T71 x8_2 x59_2).f1) - (rd t115 x59_2)),(rd_T71 x8_2 x59_2).f3,(rd_T71 x8_2 x59_2).f4⟩:S71)) (k71_mkF _ _ (⟨(rd_T71 x8_2 x59_2).f0,(rd_T71 x8_2 x59_2).f1,wrap64 (((rd_T71 x8_2 x59_2).f1) - (rd t115 x59_2)),(rd_T71 x8_2 x59_2).f3,(rd_T71 x8_2 x59_2).f4⟩:S71) ul32_4 ge32_4) (fun _ hk=>hk)).1;rw[←Ny121.out] at HP32;have HQ32:=zA HP32;clear hcl32 hcc32 hfr32 hM32 HP32;refine start_ (n:=15) (S:=fun w'=>w'.cell? ⟨go29,((x59_2).toNat * 5),none⟩=some (.int .i64 ((rd_T71 x8_2 x59_2).f0))∧w'.cell? ⟨go29,((x59_2).toNat * 5)+1,none⟩=some (.int .i64 ((rd_T71 x8_2 x59_2).f1))∧w'.cell? ⟨go29,((x59_2).toNat * 5)+2,none⟩=some (.int .i64 ((rd_T71 x8_2 x59_2).f2))∧w'.cell? ⟨go29,((x59_2).toNat * 5)+3,none⟩=some (.int .i64 ((rd_T71 x8_2 x59_2).f3))∧w'.cell? ⟨go29,((x59_2).toNat * 5)+4,none⟩=some (.slice A119_4 ((rd_T71 x8_2 x59_2).f4).length c119_4)∧w'.cell? (ad120.add (x59_2).toNat)=some (.int .i64 (rd t115 x59_2))) (ds:=[14]) #[Z,Z,Z,Z,Z,Z,Z,Z,Z,Z,Z,Z,Z,Z,Z] (by kernel_rfl) rfl rfl ⟨hx119_0,hx119_1,hx119_2,hx119_3,hx119_4,hx120_0⟩ (fun hHeld=>?_);refine with_tabW bA.tab17 bA.bits17 (fun HT_ HW_=>?_)
            generalize wr.drew=w30 at HO_8 HO_11 HB GG29 HL119_4 HQ32 HR119_4 hf29_0 hf29_1 hf29_2 hf29_3 hf29_4 hx119_0 hx119_1 hx119_2 hx119_3 hx119_4 hx120_0 hx29_0 hx29_1 hx29_2 hx29_3 hx29_4 hHeld⊢;refine pure_ (i:=0) (N:=some 62) #[I,Z,Z,Z,Z,Z,Z,Z,Z,Z,Z,Z,Z,Z,Z] rfl rfl (any_of HT_.out (by kernel_rfl)) (fun _ _ _ h=>h) (Or.inl ⟨by rfl,qy⟩) qz ?_;refine pure_ (i:=1) (N:=some 63) #[I,I,Z,Z,Z,Z,Z,Z,Z,Z,Z,Z,Z,Z,Z] rfl rfl (any_of HT_.out (by kernel_rfl)) (fun _ _ _ h=>h) (Or.inl ⟨by rfl,qy⟩) qz ?_;refine pure_ (i:=2) (N:=some 64) #[I,I,I,Z,Z,Z,Z,Z,Z,Z,Z,Z,Z,Z,Z] rfl rfl (any_of HT_.out (by kernel_rfl)) (fun _ _ _ h=>h) (Or.inl ⟨by rfl,qy⟩) qz ?_;refine pure_ (i:=3) (N:=some 65) #[I,I,I,I,Z,Z,Z,Z,Z,Z,Z,Z,Z,Z,Z] rfl rfl (any_of HT_.out (by kernel_rfl)) (fun _ _ _ h=>h) (Or.inl ⟨by rfl,qy⟩) qz ?_;refine pure_ (i:=4) (N:=some 66) #[I,I,I,I,I,Z,Z,Z,Z,Z,Z,Z,Z,Z,Z] rfl rfl (any_of HT_.out (by kernel_rfl)) (fun _ _ _ h=>h) (Or.inl ⟨by rfl,qy⟩) qz ?_;refine pure_ (i:=5) (N:=some 67) #[I,I,I,I,I,I,Z,Z,Z,Z,Z,Z,Z,Z,Z] rfl rfl (any_of HT_.out (by kernel_rfl)) (fun _ _ _ h=>h) (Or.inl ⟨by rfl,qy⟩) qz ?_;refine pure_ (i:=7) (N:=some 69) #[I,I,I,I,I,I,Z,I,Z,Z,Z,Z,Z,Z,Z] rfl rfl (any_of HT_.out (by kernel_rfl)) (fun _ _ _ h=>h) (Or.inl ⟨by rfl,qy⟩) qz ?_;refine pure_ (i:=8) (N:=some 70) #[I,I,I,I,I,I,Z,I,I,Z,Z,Z,Z,Z,Z] rfl rfl (any_of HT_.out (by kernel_rfl)) (fun _ _ _ h=>h) (Or.inl ⟨by rfl,qy⟩) qz ?_;refine pure_ (i:=9) (N:=some 71) #[I,I,I,I,I,I,Z,I,I,I,Z,Z,Z,Z,Z] rfl rfl (any_of HT_.out (by kernel_rfl)) (fun _ _ _ h=>h) (Or.inl ⟨by rfl,qy⟩) qz ?_;refine take_ (i:=6) (N:=some 68) (v:=?_) (a':=?_) #[I,I,I,I,I,I,I,I,I,I,Z,Z,Z,Z,Z] rfl rfl (take_ofW HT_.out HW_.out (by kernel_rfl)) (fun _ _ _ h=>h) (Or.inl ⟨by rfl,?_⟩) hHeld ?_ ?_;rotate_left
            ·rintro w' ⟨s0,s1,s2,s3,s4,s5⟩
             go_simp;with_reducible rfl
            rotate_left
            ·simp only[Act.put,zH,zI,zJ,i64_w,i32_w]
             rfl
            refine take_ (i:=10) (N:=some 72) (v:=?_) (a':=?_) #[I,I,I,I,I,I,I,I,I,I,I,Z,Z,Z,Z] rfl rfl (take_ofW HT_.out HW_.out (by kernel_rfl)) (fun _ _ _ h=>h) (Or.inl ⟨by rfl,?_⟩) hHeld ?_ ?_;rotate_left
            ·rintro w' ⟨s0,s1,s2,s3,s4,s5⟩
             go_simp;with_reducible rfl
            rotate_left
            ·simp only[Act.put,zH,zI,zJ,i64_w,i32_w]
             rfl
            refine pure_ (i:=11) (N:=some 73) #[I,I,I,I,I,I,I,I,I,I,I,I,Z,Z,Z] rfl rfl (any_of HT_.out (by kernel_rfl)) (fun _ _ _ h=>h) (Or.inl ⟨by rfl,qy⟩) qz ?_;refine pure_ (i:=12) (N:=some 74) #[I,I,I,I,I,I,I,I,I,I,I,I,I,Z,Z] rfl rfl (any_of HT_.out (by kernel_rfl)) (fun _ _ _ h=>h) (Or.inl ⟨by rfl,qy⟩) qz ?_;refine pure_ (i:=13) (N:=some 75) #[I,I,I,I,I,I,I,I,I,I,I,I,I,I,Z] rfl rfl (any_of HT_.out (by kernel_rfl)) (fun _ _ _ h=>h) (Or.inl ⟨by rfl,qy⟩) qz ?_;refine last_ (i:=14) (N:=none) #[I,I,I,I,I,I,I,I,I,I,I,I,I,I,I] rfl rfl (one_of HT_.out (by kernel_rfl)) (by decide) (fun K hK=>?_);refine skip_ (w1:=?_) (by rfl) rfl ?_ ?_;rotate_left
            ·go_simp
             rfl
            refine hK.out _ _ ?_;clear hK K;refine done_ (done_of HT_.out (by kernel_rfl)) ?_;try go_wp2
            (try simp only[←hl8_2])
            go_roundg k2
            case measure=>have:=HJ8.out;have:=HK2.out;omega
            case rel=>exact⟨(y121),(wrap64 (x59_2+1)),qF_,H',⟨by have:=HJ8.out;have:=HK2.out;omega⟩,⟨by(try simp only[hl8_2]);(with_reducible repeat(first|apply Kd.N_alloc|apply Kd.N_drewN|apply Kd.N_drew));exact HQ32.out⟩,⟨by(try simp only[hl8_2]);(with_reducible repeat(first|apply Kd.R_alloc|apply Kd.R_drewN|apply Kd.R_drew));exact Kd.R_mono (Kd.R_far (p:=⟨go29,(x59_2:Int).toNat * 5+2,none⟩) (Kd.R_types HO_11.out GG29.out (by decide)) (fun _ hk=>hk.2) (.int .i64 (wrap64 (((rd_T71 x8_2 x59_2).f1) - (rd t115 x59_2))))) (fun _ hk=>hk.1)⟩,⟨by repeat(first|(with_reducible first|exact HB.out|apply zD|apply zB|apply zC|refine zE ?_ GB29.out)|exact HB.out)⟩⟩
           rw[if_neg c28] at H;exact absurd H (by simp)
          rw[if_neg c27] at H;exact absurd H (by simp)
         rw[if_neg c26] at H;exact absurd H (by simp)
        rw[if_neg c25] at H;have c25b0:=zGq c25;try have c25e8_2:decide (x59_2 < (x8_2.length:Int))=false:=by rw[←hl8_2];exact c25b0
        clear c25;obtain⟨t122,A33,H⟩:=qD_ H;(try dsimp only at H);obtain⟨⟨t125,t126⟩,A34,H⟩:=qD_ H;(try dsimp only at H);by_cases c35:t126=0
        ·rw[if_pos c35] at H
         have c35b0:(t126==0)=true:=beq_iff_eq.mpr c35;have c35b1:(t126 != 0)=false:=bne_eq_false_iff_eq.mpr c35;clear c35;have H':=zA H;clear H;go_wp2_with (first|(go_at_call 112;(with_reducible refine(bE.calls k2 _ _ x8_2 t122 _ ?side1 ?side2 A33.out).mono ?_);(case side1=>repeat(first|exact(Kd.N_reads' HO_8.out).2.2|(with_reducible refine Kd.C_alloc ?_ _)|(with_reducible refine Kd.C_drewN ?_ _)|(with_reducible refine Kd.C_drew ?_)));(case side2=>exact(Kd.N_reads' HO_8.out).2.1);rintro e w36 ⟨v123,rfl,ho0,hb⟩;replace HO_8:=zA (Kd.N_elder' (qN_ HO_8.out) (Kd.R_base ho0) hb);have HO124:=zA (Kd.R_lower (Kd.R_new' (Kd.R_newM (M:=fun k_=> (w.heap.size≤k_)) ho0 (zW qB) (fun k_ h_=>h_)) (Kd.R_lt (qR_ HO_11.out))) (zW qB));replace HO_11:=zA (Kd.R_elder' (qR_ HO_11.out) (Kd.R_base ho0) hb);replace HB:=zA (zV qB hb);(try clear hb);(try clear ho0);obtain⟨Ao37,co37,eo37⟩:=Kd.R_slice HO124.out;subst eo37)|((with_reducible refine zJq (f:=51) rfl ?_);refine goesL_ (some 81) rfl rfl Try.func51 (by kernel_rfl) rfl #[.int .i64 a2,.slice Ao37 t122.length co37] rfl qG ?_;(with_reducible refine(bM.calls k2 a2 _ _ t122 t125 t126 _ ?side1 ?side2 A34.out).mono ?_);(case side1=>repeat(first|exact(Kd.R_reads' HO124.out).2.2|(with_reducible refine Kd.C_alloc ?_ _)|(with_reducible refine Kd.C_drewN ?_ _)|(with_reducible refine Kd.C_drew ?_)));(case side2=>exact(Kd.R_reads' HO124.out).2.1);rintro e w38 ⟨v127,rfl,ho0,hb⟩;refine⟨_,rfl,?_⟩;replace HO_8:=zA (Kd.N_elder' (qN_ HO_8.out) (Kd.R_base ho0) hb);have HO128:=zA (Kd.R_lower (Kd.R_new' (Kd.R_new' (Kd.R_newM (M:=fun k_=> (w.heap.size≤k_)) ho0 (zW qB) (fun k_ h_=>h_)) (Kd.R_lt (qR_ HO_11.out))) (Kd.R_lt (qR_ HO124.out))) (zW qB));replace HO_11:=zA (Kd.R_elder' (qR_ HO_11.out) (Kd.R_base ho0) hb);replace HO124:=zA (Kd.R_elder' (qR_ HO124.out) (Kd.R_base ho0) hb);replace HB:=zA (zV qB hb);(try clear hb);(try clear ho0)))
         go_loopg[89] k2 (fun kq v89 w'=> ∃ (x8_3:List (S71)) (x89_3:Int),v89= .int .i64 x89_3∧Aside0 (bA.l1 kq x8_3 t125 (x8_2.length:Int) x89_3=some (r1,r2))∧Aside0 (kq≤k2)∧Aside0 (Kd.N k71 71 w' w.heap.size (fun k_=> (P0_ k_∨w.heap.size≤k_)∧some k_≠(v127:Value).ownBlock) (.slice Ao11 x8_2.length co11) x8_3)∧Aside0 (Kd.R (Kd.int .i64) 3 w' w.heap.size (fun k_=> (w.heap.size≤k_)) v127 t125)∧Aside0 (Below w.heap.size w w'))
         case atStart=>exact⟨(x8_2),(0),qF_,H',⟨Nat.le_refl _⟩,⟨by(try simp only[hl8_2]);(with_reducible repeat(first|apply Kd.N_alloc|apply Kd.N_drewN|apply Kd.N_drew));exact Kd.N_mono HO_8.out (fun _ hk=> ⟨hk.1.1.1,hk.2⟩)⟩,⟨by(try simp only[hl8_2]);(with_reducible repeat(first|apply Kd.R_alloc|apply Kd.R_drewN|apply Kd.R_drew));exact Kd.R_mono HO128.out (fun _ hk=>hk.1.1.1)⟩,⟨qB⟩⟩
         case round=>
          clear H';try clear c1
          try clear p1
          try clear q1
          try clear hx1
          try clear c2
          try clear p2
          try clear q2
          try clear hx2
          try clear c3
          try clear c5
          try clear c5b0
          try clear c5b1
          try clear c6
          try clear p6
          try clear c8
          try clear c8b0
          try clear c8b1
          try clear c11
          try clear p11
          try clear q11
          try clear hx11
          try clear p12
          try clear q12
          try clear hx12
          try clear c15
          try clear c17
          try clear c18
          try clear c18b0
          try clear c21
          try clear c21b0
          try clear c21b1
          try clear c25
          try clear c25b0
          try clear c26
          try clear c26b0
          try clear c27
          try clear c27b0
          try clear c28
          try clear c28b0
          try clear c29
          try clear p29
          try clear q29
          try clear hx29
          try clear hf29
          try clear c32
          try clear c35
          try clear c35b0
          try clear c35b1
          try clear hx119_0
          try clear hx119_1
          try clear hx119_2
          try clear hx119_3
          try clear hx119_4
          try clear hx120_0
          try clear hx29_0
          try clear hx29_1
          try clear hx29_2
          try clear hx29_3
          try clear hx29_4
          try clear p119
          try clear p120
          try clear p2
          try clear p29
          try clear q119
          try clear q120
          try clear q29
          obtain⟨x8_3,x89_3,rfl,HA,HK3,HO_8,HO_13,HB⟩:=hrel;have hl8_3:=(Kd.N_reads' HO_8.out).1;rw[hl8_3] at HO_8;(try simp only[hl8_3])
          (try simp only[hl8_3] at HO_13)
          cases gk with
          |zero=>exact absurd HA.out (by simp[bA.l1])
          |succ k3=>
           have H:=HA.out;clear HA;simp only[bA.l1] at H;by_cases c39:x89_3 < (x8_2.length:Int)
           ·rw[if_pos c39] at H
            have c39b0:=zFq c39;try have c39e8_3:decide (x89_3 < (x8_3.length:Int))=true:=by rw[←hl8_3];exact c39b0
            clear c39;by_cases c40:0≤x89_3
            ·rw[if_pos c40] at H
             have c40b0:=zFq c40;clear c40;by_cases c41:x89_3 < (t125.length:Int)
             ·rw[if_pos c41] at H
              have c41b0:=zFq c41;try have c41e8_2:decide (x89_3 < (x8_2.length:Int))=true:=by rw[←hl8_2];exact c41b0
              try have c41e8_3:decide (x89_3 < (x8_3.length:Int))=true:=by rw[←hl8_3];exact c41b0
              clear c41;by_cases c42:x89_3 < (x8_3.length:Int)
              ·rw[if_pos c42] at H
               have c42b0:=zFq c42;try have c42e8_2:decide (x89_3 < (x8_2.length:Int))=true:=by rw[←hl8_2];exact c42b0
               clear c42;obtain⟨y130,hy130⟩: ∃ y_:List (S71),y_=(x8_3.set (x89_3:Int).toNat (⟨(rd_T71 x8_3 x89_3).f0,(rd_T71 x8_3 x89_3).f1,(rd_T71 x8_3 x89_3).f2,rd t125 x89_3,(rd_T71 x8_3 x89_3).f4⟩:S71)):=⟨_,rfl⟩
               replace H:((bJ.f k3 ((rd_T71 y130 x89_3).f0) ((rd_T71 y130 x89_3).f1) ((rd_T71 y130 x89_3).f2) ((rd_T71 y130 x89_3).f3) ((rd_T71 y130 x89_3).f4)).bind fun t132=> (if t132=0 then(bA.l1 k3 y130 t125 (x8_2.length:Int) (wrap64 (x89_3+1)))else(some (([] :List (S71)),t132))))=some (r1,r2):=by first|(rw[hy130];with_reducible exact H)|(have H2_:=(Option.bind_some _ _).symm.trans H;rw[hy130];with_reducible exact H2_)|(have H2_:=(Option.bind_some _ _).symm.trans H;with_reducible exact H2_)|with_reducible exact H|(rw[hy130];exact H)|exact H
               have Ny130:=zA hy130;clear hy130;obtain⟨t132,A44,H⟩:=qD_ H;(try dsimp only at H);by_cases c45:t132=0
               ·rw[if_pos c45] at H
                have c45b0:(t132==0)=true:=beq_iff_eq.mpr c45;have c45b1:(t132 != 0)=false:=bne_eq_false_iff_eq.mpr c45;clear c45;have H':=zA H;clear H;obtain⟨Ao46,co46,eo46⟩:=Kd.R_slice HO_13.out;subst eo46;have p129:0≤(x89_3:Int):=qO_;have q129:x89_3 < (t125.length:Int):=qO_;obtain⟨ad129,e129,hx129_0⟩:=Kd.at_int (Kd.R_reads' HO_13.out).2.2 x89_3 p129 q129;cases e129
                replace p129:=eq_true p129;replace q129:=eq_true q129;have p43:0≤(x89_3:Int):=qO_;have q43:(x89_3:Int) < ((x8_3.length:Int):Int):=qO_;obtain⟨go43,co43,eo43,gb43,gl43,cl43,HG43⟩:=Kd.N_form HO_8.out (by omega);(first|cases eo43|(injection eo43 with ea_ en_ ec_;(first|subst ea_|(injection ea_ with ea_;subst ea_));subst ec_;clear en_))
                have GB43:=zA gb43;have GG43:=zA HG43;clear gb43 gl43 HG43;obtain⟨ce43,hcl43,hM43,hcc43,hfr43⟩:=Kd.N_elem HO_8.out z71 (x89_3:Int) p43 q43;obtain⟨ua43_4,uc43_4,rfl,ul43_4,ge43_4⟩:=k71_openF hM43;have hx43_0:wr.cell? ⟨go43,(x89_3:Int).toNat * 5,none⟩=some (.int .i64 ((rd_T71 x8_3 x89_3).f0)):=hcc43 0 _ rfl;have hx43_1:wr.cell? ⟨go43,(x89_3:Int).toNat * 5+1,none⟩=some (.int .i64 ((rd_T71 x8_3 x89_3).f1)):=hcc43 1 _ rfl;have hx43_2:wr.cell? ⟨go43,(x89_3:Int).toNat * 5+2,none⟩=some (.int .i64 ((rd_T71 x8_3 x89_3).f2)):=hcc43 2 _ rfl;have hx43_3:wr.cell? ⟨go43,(x89_3:Int).toNat * 5+3,none⟩=some (.int .i64 ((rd_T71 x8_3 x89_3).f3)):=hcc43 3 _ rfl;have hx43_4:wr.cell? ⟨go43,(x89_3:Int).toNat * 5+4,none⟩=some (.slice ua43_4 ((rd_T71 x8_3 x89_3).f4).length uc43_4):=hcc43 4 _ rfl;have hf43_0:wr.frozen? ⟨go43,(x89_3:Int).toNat * 5,none⟩=false:=hfr43 0;have hf43_1:wr.frozen? ⟨go43,(x89_3:Int).toNat * 5+1,none⟩=false:=hfr43 1;have hf43_2:wr.frozen? ⟨go43,(x89_3:Int).toNat * 5+2,none⟩=false:=hfr43 2;have hf43_3:wr.frozen? ⟨go43,(x89_3:Int).toNat * 5+3,none⟩=false:=hfr43 3;have hf43_4:wr.frozen? ⟨go43,(x89_3:Int).toNat * 5+4,none⟩=false:=hfr43 4;clear hcl43 hcc43 hfr43 hM43;replace p43:=eq_true p43;replace q43:=eq_true q43;have HX47:=zA (show Kd.N k71 71 wr w.heap.size (fun k_=> (P0_ k_∨w.heap.size≤k_)∧some k_≠(.slice (some ad129) t125.length co46:Value).ownBlock) (.slice (some ⟨go43,0,none⟩) x8_3.length co11) x8_3 from(qN_ HO_8.out));obtain⟨ce47,hcl47,hM47,hcc47,hfr47⟩:=Kd.N_elem HX47.out z71 (x89_3:Int) (qO_) (by have h_:(x89_3:Int) < ((x8_3.length:Int):Int):=qO_;first|exact h_|(have e_:=(Kd.N_reads' HO_8.out).1;omega)|simpa using h_);obtain⟨ua47_4,uc47_4,rfl,ul47_4,ge47_4⟩:=k71_openF hM47;have HP47:=Kd.N_seg HX47.out (x89_3:Int) (qO_) (by have h_:(x89_3:Int) < ((x8_3.length:Int):Int):=qO_;first|exact h_|(have e_:=(Kd.N_reads' HO_8.out).1;omega)|simpa using h_) (seg:=[.int .i64 (rd t125 x89_3)]) (j:=3) hcl47 hcc47 (show 4≤5 from by decide) (x':=(⟨(rd_T71 x8_3 x89_3).f0,(rd_T71 x8_3 x89_3).f1,(rd_T71 x8_3 x89_3).f2,rd t125 x89_3,(rd_T71 x8_3 x89_3).f4⟩:S71)) (k71_mkF _ _ (⟨(rd_T71 x8_3 x89_3).f0,(rd_T71 x8_3 x89_3).f1,(rd_T71 x8_3 x89_3).f2,rd t125 x89_3,(rd_T71 x8_3 x89_3).f4⟩:S71) ul47_4 ge47_4) (fun _ hk=>hk);have hx47_3:=hcc47 3 _ rfl;(try simp only[show(k71).sz=5 from rfl,Nat.mul_one,Nat.add_zero] at hx47_3)
                have hf47_3:=hfr47 3;(try simp only[show(k71).sz=5 from rfl,Nat.mul_one,Nat.add_zero] at hf47_3)
                clear hcl47 hcc47 hfr47 hM47;go_wp2_with (first|((with_reducible refine gate_store (t:=3) (p:=99) rfl ?_);refine store_event (t:=3) (p:=99) (v:=?vo_w48) (w1:=(wr.setCell ⟨go43,(x89_3:Int).toNat * 5+3,none⟩ (.int .i64 (rd t125 x89_3)))) ?hg ?ho ?hn ?hr ?_;(case ho=>rfl);(case hg=>rfl);(case hn=>rfl);(case hr=>first|(go_simp;done)|(go_simp;rfl));intro w48 hw;have hg:wr.grownBy w48 (some go43):=(by rw[hw];exact HP47.2);have hp_:Kd.N k71 71 w48 w.heap.size (fun k_=> (P0_ k_∨w.heap.size≤k_)∧some k_≠(.slice (some ad129) t125.length co46:Value).ownBlock) (.slice (some ⟨go43,0,none⟩) x8_3.length co11) y130:=(by rw[hw,Ny130.out];exact HP47.1);clear HP47;replace HO_13:=zA (Kd.R_over' (v:=(.slice (some ⟨go43,0,none⟩) x8_3.length co11)) (qR_ HO_13.out) (Kd.N_typed HO_8.out) (by decide) hg);replace HO_8:=zA (hp_);replace HB:=zA ((by rw[hw];exact zE (HB.out) GB43.out:Below w.heap.size w w48));clear hg hw hp_;have p131:0≤(x89_3:Int):=qO_;have q131:x89_3 < (y130.length:Int):=(by have h_:(x89_3:Int) < ((x8_3.length:Int):Int):=qO_;first|(have e_:=(Kd.N_reads' HO_8.out).1;omega)|simpa only[Ny130.out,List.length_set] using h_);have ql131:((x89_3:Int) < ((x8_3.length:Int):Int))=True:=eq_true (qO_);obtain⟨ad131,A131_4,c131_4,e131,hx131_0,hx131_1,hx131_2,hx131_3,hx131_4,hl131_4,hi131_4⟩:=at_T71 (Kd.N_reads' HO_8.out).2.2 x89_3 p131 q131;obtain rfl:(⟨go43,0,none⟩:Addr)=ad131:=(by injection e131);obtain⟨ce131,hce131,hMe131,hcc131⟩:=Kd.N_get HO_8.out z71 x89_3 p131 (by first|exact q131|exact qO_|(have e_:=(Kd.N_reads' HO_8.out).1;omega));obtain⟨ua131_4,uc131_4,rfl,ul131_4,ge131_4⟩:=k71_openF hMe131;have hv131_4:=hcc131 4 _ rfl;rw[add_field _ _ 4 (by omega)] at hv131_4;replace hv131_4:=zKq (hv131_4.symm.trans hx131_4);injection hv131_4 with hva_ hvn_ hvc_;rw[hva_] at ge131_4;rw[hvc_] at ul131_4;have HL131_4:=zA (show Kd.V Kd.string 9 _ w.heap.size _ _ ((rd_T71 y130 x89_3).f4)from Kd.V_mk ul131_4 ge131_4);clear hva_ hvn_ hvc_ ge131_4 ul131_4 hcc131 hce131;(first|simp only[add_plain] at hx131_0|simp only[add_at] at hx131_0|simp only[Addr.add,Nat.zero_add] at hx131_0|skip);(first|simp only[add_plain] at hx131_1|simp only[add_at] at hx131_1|simp only[Addr.add,Nat.zero_add] at hx131_1|skip);(first|simp only[add_plain] at hx131_2|simp only[add_at] at hx131_2|simp only[Addr.add,Nat.zero_add] at hx131_2|skip);(first|simp only[add_plain] at hx131_3|simp only[add_at] at hx131_3|simp only[Addr.add,Nat.zero_add] at hx131_3|skip);(first|simp only[add_plain] at hx131_4|simp only[add_at] at hx131_4|simp only[Addr.add,Nat.zero_add] at hx131_4|skip);have HR131_4:=zA hi131_4;have HC131_4:=zA hl131_4;clear hi131_4 hl131_4;replace p131:=eq_true p131;replace q131:=eq_true q131)|((with_reducible refine zJq (f:=69) rfl ?_);refine goesL_ (some 104) rfl rfl Try.func69 (by kernel_rfl) rfl #[.agg #[.int .i64 ((rd_T71 y130 x89_3).f0),.int .i64 ((rd_T71 y130 x89_3).f1),.int .i64 ((rd_T71 y130 x89_3).f2),.int .i64 ((rd_T71 y130 x89_3).f3),.slice A131_4 ((rd_T71 y130 x89_3).f4).length c131_4]] rfl qG ?_;(with_reducible refine(bJ.calls k3 ((rd_T71 y130 x89_3).f0) ((rd_T71 y130 x89_3).f1) ((rd_T71 y130 x89_3).f2) ((rd_T71 y130 x89_3).f3) _ _ ((rd_T71 y130 x89_3).f4) t132 _ ?side1 ?side2 A44.out).mono ?_);(case side1=>repeat(first|exact(by repeat(first|(with_reducible exact HR131_4.out)|(with_reducible refine Kd.C_alloc ?_ _)|(with_reducible refine Kd.C_drewN ?_ _)|(with_reducible refine Kd.C_drew ?_)|exact HR131_4.out))|(with_reducible refine Kd.C_alloc ?_ _)|(with_reducible refine Kd.C_drewN ?_ _)|(with_reducible refine Kd.C_drew ?_)));(case side2=>exact HC131_4.out);rintro e w49 ⟨rfl,hb⟩;refine⟨_,rfl,?_⟩;replace HO_8:=zA (Kd.N_below (qN_ HO_8.out) hb);replace HO_13:=zA (Kd.R_below (qR_ HO_13.out) hb);replace HL131_4:=zA (Kd.V_below (qV_ HL131_4.out) hb);replace HR131_4:=zA (Kd.C_below (by repeat(first|(with_reducible exact HR131_4.out)|(with_reducible refine Kd.C_alloc ?_ _)|(with_reducible refine Kd.C_drewN ?_ _)|(with_reducible refine Kd.C_drew ?_)|exact HR131_4.out)) hb);replace HB:=zA (zV qB hb);(try clear hb)))
                (try simp only[←hl8_3])
                go_roundg k3
                case measure=>have:=HJ8.out;have:=HK2.out;have:=HK3.out;omega
                case rel=>exact⟨(y130),(wrap64 (x89_3+1)),qF_,H',⟨by have:=HJ8.out;have:=HK2.out;have:=HK3.out;omega⟩,⟨by(try simp only[hl8_2]);(try simp only[hl8_3]);(with_reducible repeat(first|apply Kd.N_alloc|apply Kd.N_drewN|apply Kd.N_drew));exact HO_8.out⟩,⟨by(try simp only[hl8_2]);(try simp only[hl8_3]);(with_reducible repeat(first|apply Kd.R_alloc|apply Kd.R_drewN|apply Kd.R_drew));exact HO_13.out⟩,⟨qB⟩⟩
               rw[if_neg c45] at H;have c45b0:(t132==0)=false:=beq_eq_false_iff_ne.mpr c45;have c45b1:(t132 != 0)=true:=bne_iff_ne.mpr c45;simp only[zNq,zOq] at H;obtain⟨rfl,rfl⟩:=H;obtain⟨Ao50,co50,eo50⟩:=Kd.R_slice HO_13.out;subst eo50;have p129:0≤(x89_3:Int):=qO_;have q129:x89_3 < (t125.length:Int):=qO_;obtain⟨ad129,e129,hx129_0⟩:=Kd.at_int (Kd.R_reads' HO_13.out).2.2 x89_3 p129 q129;cases e129
               replace p129:=eq_true p129;replace q129:=eq_true q129;have p43:0≤(x89_3:Int):=qO_;have q43:(x89_3:Int) < ((x8_3.length:Int):Int):=qO_;obtain⟨go43,co43,eo43,gb43,gl43,cl43,HG43⟩:=Kd.N_form HO_8.out (by omega);(first|cases eo43|(injection eo43 with ea_ en_ ec_;(first|subst ea_|(injection ea_ with ea_;subst ea_));subst ec_;clear en_))
               have GB43:=zA gb43;have GG43:=zA HG43;clear gb43 gl43 HG43;obtain⟨ce43,hcl43,hM43,hcc43,hfr43⟩:=Kd.N_elem HO_8.out z71 (x89_3:Int) p43 q43;obtain⟨ua43_4,uc43_4,rfl,ul43_4,ge43_4⟩:=k71_openF hM43;have hx43_0:wr.cell? ⟨go43,(x89_3:Int).toNat * 5,none⟩=some (.int .i64 ((rd_T71 x8_3 x89_3).f0)):=hcc43 0 _ rfl;have hx43_1:wr.cell? ⟨go43,(x89_3:Int).toNat * 5+1,none⟩=some (.int .i64 ((rd_T71 x8_3 x89_3).f1)):=hcc43 1 _ rfl;have hx43_2:wr.cell? ⟨go43,(x89_3:Int).toNat * 5+2,none⟩=some (.int .i64 ((rd_T71 x8_3 x89_3).f2)):=hcc43 2 _ rfl;have hx43_3:wr.cell? ⟨go43,(x89_3:Int).toNat * 5+3,none⟩=some (.int .i64 ((rd_T71 x8_3 x89_3).f3)):=hcc43 3 _ rfl;have hx43_4:wr.cell? ⟨go43,(x89_3:Int).toNat * 5+4,none⟩=some (.slice ua43_4 ((rd_T71 x8_3 x89_3).f4).length uc43_4):=hcc43 4 _ rfl;have hf43_0:wr.frozen? ⟨go43,(x89_3:Int).toNat * 5,none⟩=false:=hfr43 0;have hf43_1:wr.frozen? ⟨go43,(x89_3:Int).toNat * 5+1,none⟩=false:=hfr43 1;have hf43_2:wr.frozen? ⟨go43,(x89_3:Int).toNat * 5+2,none⟩=false:=hfr43 2;have hf43_3:wr.frozen? ⟨go43,(x89_3:Int).toNat * 5+3,none⟩=false:=hfr43 3;have hf43_4:wr.frozen? ⟨go43,(x89_3:Int).toNat * 5+4,none⟩=false:=hfr43 4;clear hcl43 hcc43 hfr43 hM43;replace p43:=eq_true p43;replace q43:=eq_true q43;have HX51:=zA (show Kd.N k71 71 wr w.heap.size (fun k_=> (P0_ k_∨w.heap.size≤k_)∧some k_≠(.slice (some ad129) t125.length co50:Value).ownBlock) (.slice (some ⟨go43,0,none⟩) x8_3.length co11) x8_3 from(qN_ HO_8.out));obtain⟨ce51,hcl51,hM51,hcc51,hfr51⟩:=Kd.N_elem HX51.out z71 (x89_3:Int) (qO_) (by have h_:(x89_3:Int) < ((x8_3.length:Int):Int):=qO_;first|exact h_|(have e_:=(Kd.N_reads' HO_8.out).1;omega)|simpa using h_);obtain⟨ua51_4,uc51_4,rfl,ul51_4,ge51_4⟩:=k71_openF hM51;have HP51:=Kd.N_seg HX51.out (x89_3:Int) (qO_) (by have h_:(x89_3:Int) < ((x8_3.length:Int):Int):=qO_;first|exact h_|(have e_:=(Kd.N_reads' HO_8.out).1;omega)|simpa using h_) (seg:=[.int .i64 (rd t125 x89_3)]) (j:=3) hcl51 hcc51 (show 4≤5 from by decide) (x':=(⟨(rd_T71 x8_3 x89_3).f0,(rd_T71 x8_3 x89_3).f1,(rd_T71 x8_3 x89_3).f2,rd t125 x89_3,(rd_T71 x8_3 x89_3).f4⟩:S71)) (k71_mkF _ _ (⟨(rd_T71 x8_3 x89_3).f0,(rd_T71 x8_3 x89_3).f1,(rd_T71 x8_3 x89_3).f2,rd t125 x89_3,(rd_T71 x8_3 x89_3).f4⟩:S71) ul51_4 ge51_4) (fun _ hk=>hk);have hx51_3:=hcc51 3 _ rfl;(try simp only[show(k71).sz=5 from rfl,Nat.mul_one,Nat.add_zero] at hx51_3)
               have hf51_3:=hfr51 3;(try simp only[show(k71).sz=5 from rfl,Nat.mul_one,Nat.add_zero] at hf51_3)
               clear hcl51 hcc51 hfr51 hM51;go_wp2_with (first|((with_reducible refine gate_store (t:=3) (p:=99) rfl ?_);refine store_event (t:=3) (p:=99) (v:=?vo_w52) (w1:=(wr.setCell ⟨go43,(x89_3:Int).toNat * 5+3,none⟩ (.int .i64 (rd t125 x89_3)))) ?hg ?ho ?hn ?hr ?_;(case ho=>rfl);(case hg=>rfl);(case hn=>rfl);(case hr=>first|(go_simp;done)|(go_simp;rfl));intro w52 hw;have hg:wr.grownBy w52 (some go43):=(by rw[hw];exact HP51.2);have hp_:Kd.N k71 71 w52 w.heap.size (fun k_=> (P0_ k_∨w.heap.size≤k_)∧some k_≠(.slice (some ad129) t125.length co50:Value).ownBlock) (.slice (some ⟨go43,0,none⟩) x8_3.length co11) y130:=(by rw[hw,Ny130.out];exact HP51.1);clear HP51;replace HO_13:=zA (Kd.R_over' (v:=(.slice (some ⟨go43,0,none⟩) x8_3.length co11)) (qR_ HO_13.out) (Kd.N_typed HO_8.out) (by decide) hg);replace HO_8:=zA (hp_);replace HB:=zA ((by rw[hw];exact zE (HB.out) GB43.out:Below w.heap.size w w52));clear hg hw hp_;have p131:0≤(x89_3:Int):=qO_;have q131:x89_3 < (y130.length:Int):=(by have h_:(x89_3:Int) < ((x8_3.length:Int):Int):=qO_;first|(have e_:=(Kd.N_reads' HO_8.out).1;omega)|simpa only[Ny130.out,List.length_set] using h_);have ql131:((x89_3:Int) < ((x8_3.length:Int):Int))=True:=eq_true (qO_);obtain⟨ad131,A131_4,c131_4,e131,hx131_0,hx131_1,hx131_2,hx131_3,hx131_4,hl131_4,hi131_4⟩:=at_T71 (Kd.N_reads' HO_8.out).2.2 x89_3 p131 q131;obtain rfl:(⟨go43,0,none⟩:Addr)=ad131:=(by injection e131);obtain⟨ce131,hce131,hMe131,hcc131⟩:=Kd.N_get HO_8.out z71 x89_3 p131 (by first|exact q131|exact qO_|(have e_:=(Kd.N_reads' HO_8.out).1;omega));obtain⟨ua131_4,uc131_4,rfl,ul131_4,ge131_4⟩:=k71_openF hMe131;have hv131_4:=hcc131 4 _ rfl;rw[add_field _ _ 4 (by omega)] at hv131_4;replace hv131_4:=zKq (hv131_4.symm.trans hx131_4);injection hv131_4 with hva_ hvn_ hvc_;rw[hva_] at ge131_4;rw[hvc_] at ul131_4;have HL131_4:=zA (show Kd.V Kd.string 9 _ w.heap.size _ _ ((rd_T71 y130 x89_3).f4)from Kd.V_mk ul131_4 ge131_4);clear hva_ hvn_ hvc_ ge131_4 ul131_4 hcc131 hce131;(first|simp only[add_plain] at hx131_0|simp only[add_at] at hx131_0|simp only[Addr.add,Nat.zero_add] at hx131_0|skip);(first|simp only[add_plain] at hx131_1|simp only[add_at] at hx131_1|simp only[Addr.add,Nat.zero_add] at hx131_1|skip);(first|simp only[add_plain] at hx131_2|simp only[add_at] at hx131_2|simp only[Addr.add,Nat.zero_add] at hx131_2|skip);(first|simp only[add_plain] at hx131_3|simp only[add_at] at hx131_3|simp only[Addr.add,Nat.zero_add] at hx131_3|skip);(first|simp only[add_plain] at hx131_4|simp only[add_at] at hx131_4|simp only[Addr.add,Nat.zero_add] at hx131_4|skip);have HR131_4:=zA hi131_4;have HC131_4:=zA hl131_4;clear hi131_4 hl131_4;replace p131:=eq_true p131;replace q131:=eq_true q131)|((with_reducible refine zJq (f:=69) rfl ?_);refine goesL_ (some 104) rfl rfl Try.func69 (by kernel_rfl) rfl #[.agg #[.int .i64 ((rd_T71 y130 x89_3).f0),.int .i64 ((rd_T71 y130 x89_3).f1),.int .i64 ((rd_T71 y130 x89_3).f2),.int .i64 ((rd_T71 y130 x89_3).f3),.slice A131_4 ((rd_T71 y130 x89_3).f4).length c131_4]] rfl qG ?_;(with_reducible refine(bJ.calls k3 ((rd_T71 y130 x89_3).f0) ((rd_T71 y130 x89_3).f1) ((rd_T71 y130 x89_3).f2) ((rd_T71 y130 x89_3).f3) _ _ ((rd_T71 y130 x89_3).f4) t132 _ ?side1 ?side2 A44.out).mono ?_);(case side1=>repeat(first|exact(by repeat(first|(with_reducible exact HR131_4.out)|(with_reducible refine Kd.C_alloc ?_ _)|(with_reducible refine Kd.C_drewN ?_ _)|(with_reducible refine Kd.C_drew ?_)|exact HR131_4.out))|(with_reducible refine Kd.C_alloc ?_ _)|(with_reducible refine Kd.C_drewN ?_ _)|(with_reducible refine Kd.C_drew ?_)));(case side2=>exact HC131_4.out);rintro e w53 ⟨rfl,hb⟩;refine⟨_,rfl,?_⟩;replace HO_8:=zA (Kd.N_below (qN_ HO_8.out) hb);replace HO_13:=zA (Kd.R_below (qR_ HO_13.out) hb);replace HL131_4:=zA (Kd.V_below (qV_ HL131_4.out) hb);replace HR131_4:=zA (Kd.C_below (by repeat(first|(with_reducible exact HR131_4.out)|(with_reducible refine Kd.C_alloc ?_ _)|(with_reducible refine Kd.C_drewN ?_ _)|(with_reducible refine Kd.C_drew ?_)|exact HR131_4.out)) hb);replace HB:=zA (zV qB hb);(try clear hb)))
               go_ret2;exact⟨_,qE,by first|exact Kd.S_nil _ _ _ _ _|exact Kd.N_nil _ _ _ _ _|exact Kd.V_nil _ _ _ _ _|exact Kd.Q_nil _ _ _ _ _|exact Kd.R_nil _ _ _ _ _,qB⟩
              rw[if_neg c42] at H;exact absurd H (by simp)
             rw[if_neg c41] at H;exact absurd H (by simp)
            rw[if_neg c40] at H;exact absurd H (by simp)
           rw[if_neg c39] at H;have c39b0:=zGq c39;try have c39e8_3:decide (x89_3 < (x8_3.length:Int))=false:=by rw[←hl8_3];exact c39b0
           clear c39;simp only[zNq,zOq] at H;obtain⟨rfl,rfl⟩:=H;go_wp2;go_ret2;exact⟨_,qE,by(with_reducible repeat(first|apply Kd.N_alloc|apply Kd.N_drewN|apply Kd.N_drew));exact Kd.N_mono HO_8.out (fun _ hk=>hk.1),qB⟩
        rw[if_neg c35] at H;have c35b0:(t126==0)=false:=beq_eq_false_iff_ne.mpr c35;have c35b1:(t126 != 0)=true:=bne_iff_ne.mpr c35;simp only[zNq,zOq] at H;obtain⟨rfl,rfl⟩:=H;go_wp2_with (first|(go_at_call 112;(with_reducible refine(bE.calls k2 _ _ x8_2 t122 _ ?side1 ?side2 A33.out).mono ?_);(case side1=>repeat(first|exact(Kd.N_reads' HO_8.out).2.2|(with_reducible refine Kd.C_alloc ?_ _)|(with_reducible refine Kd.C_drewN ?_ _)|(with_reducible refine Kd.C_drew ?_)));(case side2=>exact(Kd.N_reads' HO_8.out).2.1);rintro e w54 ⟨v123,rfl,ho0,hb⟩;replace HO_8:=zA (Kd.N_elder' (qN_ HO_8.out) (Kd.R_base ho0) hb);have HO124:=zA (Kd.R_lower (Kd.R_new' (Kd.R_newM (M:=fun k_=> (w.heap.size≤k_)) ho0 (zW qB) (fun k_ h_=>h_)) (Kd.R_lt (qR_ HO_11.out))) (zW qB));replace HO_11:=zA (Kd.R_elder' (qR_ HO_11.out) (Kd.R_base ho0) hb);replace HB:=zA (zV qB hb);(try clear hb);(try clear ho0);obtain⟨Ao55,co55,eo55⟩:=Kd.R_slice HO124.out;subst eo55)|((with_reducible refine zJq (f:=51) rfl ?_);refine goesL_ (some 81) rfl rfl Try.func51 (by kernel_rfl) rfl #[.int .i64 a2,.slice Ao55 t122.length co55] rfl qG ?_;(with_reducible refine(bM.calls k2 a2 _ _ t122 t125 t126 _ ?side1 ?side2 A34.out).mono ?_);(case side1=>repeat(first|exact(Kd.R_reads' HO124.out).2.2|(with_reducible refine Kd.C_alloc ?_ _)|(with_reducible refine Kd.C_drewN ?_ _)|(with_reducible refine Kd.C_drew ?_)));(case side2=>exact(Kd.R_reads' HO124.out).2.1);rintro e w56 ⟨v127,rfl,ho0,hb⟩;refine⟨_,rfl,?_⟩;replace HO_8:=zA (Kd.N_elder' (qN_ HO_8.out) (Kd.R_base ho0) hb);have HO128:=zA (Kd.R_lower (Kd.R_new' (Kd.R_new' (Kd.R_newM (M:=fun k_=> (w.heap.size≤k_)) ho0 (zW qB) (fun k_ h_=>h_)) (Kd.R_lt (qR_ HO_11.out))) (Kd.R_lt (qR_ HO124.out))) (zW qB));replace HO_11:=zA (Kd.R_elder' (qR_ HO_11.out) (Kd.R_base ho0) hb);replace HO124:=zA (Kd.R_elder' (qR_ HO124.out) (Kd.R_base ho0) hb);replace HB:=zA (zV qB hb);(try clear hb);(try clear ho0)))
        go_ret2;exact⟨_,qE,by first|exact Kd.S_nil _ _ _ _ _|exact Kd.N_nil _ _ _ _ _|exact Kd.V_nil _ _ _ _ _|exact Kd.Q_nil _ _ _ _ _|exact Kd.R_nil _ _ _ _ _,qB⟩
     rw[if_neg c21] at H;have c21b0:(t116==0)=false:=beq_eq_false_iff_ne.mpr c21;have c21b1:(t116 != 0)=true:=bne_iff_ne.mpr c21;simp only[zNq,zOq] at H;obtain⟨rfl,rfl⟩:=H;go_wp2_with (first|(go_at_call 112;(with_reducible refine(aU.calls kj8 _ _ t101 t112 _ ?side1 ?side2 A19.out).mono ?_);(case side1=>repeat(first|exact(Kd.N_reads' HO_8.out).2.2|(with_reducible refine Kd.C_alloc ?_ _)|(with_reducible refine Kd.C_drewN ?_ _)|(with_reducible refine Kd.C_drew ?_)));(case side2=>exact(Kd.N_reads' HO_8.out).2.1);rintro e w57 ⟨v113,rfl,ho0,hb⟩;replace HO_8:=zA (Kd.N_elder' (qN_ HO_8.out) (Kd.R_base ho0) hb);have HO114:=zA (Kd.R_lower (Kd.R_newM (M:=fun k_=> (w.heap.size≤k_)) ho0 (zW qB) (fun k_ h_=>h_)) (zW qB));replace HB:=zA (zV qB hb);(try clear hb);(try clear ho0);obtain⟨Ao58,co58,eo58⟩:=Kd.R_slice HO114.out;subst eo58)|((with_reducible refine zJq (f:=51) rfl ?_);refine goesL_ (some 51) rfl rfl Try.func51 (by kernel_rfl) rfl #[.int .i64 a1,.slice Ao58 t112.length co58] rfl qG ?_;(with_reducible refine(bM.calls kj8 a1 _ _ t112 t115 t116 _ ?side1 ?side2 A20.out).mono ?_);(case side1=>repeat(first|exact(Kd.R_reads' HO114.out).2.2|(with_reducible refine Kd.C_alloc ?_ _)|(with_reducible refine Kd.C_drewN ?_ _)|(with_reducible refine Kd.C_drew ?_)));(case side2=>exact(Kd.R_reads' HO114.out).2.1);rintro e w59 ⟨v117,rfl,ho0,hb⟩;refine⟨_,rfl,?_⟩;replace HO_8:=zA (Kd.N_elder' (qN_ HO_8.out) (Kd.R_base ho0) hb);have HO118:=zA (Kd.R_lower (Kd.R_new' (Kd.R_newM (M:=fun k_=> (w.heap.size≤k_)) ho0 (zW qB) (fun k_ h_=>h_)) (Kd.R_lt (qR_ HO114.out))) (zW qB));replace HO114:=zA (Kd.R_elder' (qR_ HO114.out) (Kd.R_base ho0) hb);replace HB:=zA (zV qB hb);(try clear hb);(try clear ho0)));go_ret2;exact⟨_,qE,by first|exact Kd.S_nil _ _ _ _ _|exact Kd.N_nil _ _ _ _ _|exact Kd.V_nil _ _ _ _ _|exact Kd.Q_nil _ _ _ _ _|exact Kd.R_nil _ _ _ _ _,qB⟩
  rw[if_neg c8] at H;have c8b0:(t109==0)=false:=beq_eq_false_iff_ne.mpr c8;have c8b1:(t109 != 0)=true:=bne_iff_ne.mpr c8;simp only[zNq,zOq] at H;obtain⟨rfl,rfl⟩:=H;go_enter Try.func62,Try.ntmps62;go_wp2_with (first|((with_reducible refine zJq (f:=111) rfl ?_);refine goesL_ (some 18) rfl rfl Try.func111 (by kernel_rfl) rfl #[.slice A0 l0.length c0] rfl qG ?_;(with_reducible refine(bL.calls k (fun k_=> (P0_ k_∨w.heap.size≤k_)) _ _ l0 t101 t104 _ ?side1 A4.out).mono ?_);(case side1=>exact HO0.out);rintro e w60 ⟨v102,rfl,ho0,hb⟩;refine⟨_,rfl,?_⟩;replace HO0:=zA (Kd.V_elder' (qV_ HO0.out) (Kd.N_base ho0) hb);have HO103:=zA (Kd.N_lower (Kd.N_mono (ok':=fun k_=> (P0_ k_∨w.heap.size≤k_)) ho0 (fun k_ hk_=>Or.elim hk_ (fun hs_=>hs_) (fun hn_=> (.inr (Nat.le_trans (zW qB) hn_))))) (zW qB));replace HB:=zA (zV qB hb);(try clear hb);(try clear ho0);obtain⟨Ao61,co61,eo61⟩:=Kd.N_slice HO103.out;subst eo61)|(go_at_call 112;(with_reducible refine(aU.calls k _ _ t101 t105 _ ?side1 ?side2 A6.out).mono ?_);(case side1=>repeat(first|exact(Kd.N_reads' HO103.out).2.2|(with_reducible refine Kd.C_alloc ?_ _)|(with_reducible refine Kd.C_drewN ?_ _)|(with_reducible refine Kd.C_drew ?_)));(case side2=>exact(Kd.N_reads' HO103.out).2.1);rintro e w62 ⟨v106,rfl,ho0,hb⟩;replace HO0:=zA (Kd.V_elder' (qV_ HO0.out) (Kd.R_base ho0) hb);replace HO103:=zA (Kd.N_elder' (qN_ HO103.out) (Kd.R_base ho0) hb);have HO107:=zA (Kd.R_lower (Kd.R_newM (M:=fun k_=> (w.heap.size≤k_)) ho0 (zW qB) (fun k_ h_=>h_)) (zW qB));replace HB:=zA (zV qB hb);(try clear hb);(try clear ho0);obtain⟨Ao63,co63,eo63⟩:=Kd.R_slice HO107.out;subst eo63)|((with_reducible refine zJq (f:=25) rfl ?_);refine goesL_ (some 27) rfl rfl Try.func25 (by kernel_rfl) rfl #[.slice Ao63 t105.length co63] rfl qG ?_;(with_reducible refine(aZ.calls k _ _ t105 t108 t109 _ ?side1 ?side2 A7.out).mono ?_);(case side1=>repeat(first|exact(Kd.R_reads' HO107.out).2.2|(with_reducible refine Kd.C_alloc ?_ _)|(with_reducible refine Kd.C_drewN ?_ _)|(with_reducible refine Kd.C_drew ?_)));(case side2=>exact(Kd.R_reads' HO107.out).2.1);rintro e w' ⟨rfl,⟨nd,rfl⟩⟩;refine⟨_,rfl,?_⟩));go_ret2;exact⟨_,qE,by first|exact Kd.S_nil _ _ _ _ _|exact Kd.N_nil _ _ _ _ _|exact Kd.V_nil _ _ _ _ _|exact Kd.Q_nil _ _ _ _ _|exact Kd.R_nil _ _ _ _ _,qB⟩
 rw[if_neg c5] at H
 have c5b0:(t104==0)=false:=beq_eq_false_iff_ne.mpr c5
 have c5b1:(t104 != 0)=true:=bne_iff_ne.mpr c5
 simp only[zNq,zOq] at H
 obtain⟨rfl,rfl⟩:=H
 go_enter Try.func62,Try.ntmps62
 go_wp2_with (first|((with_reducible refine zJq (f:=111) rfl ?_);refine goesL_ (some 18) rfl rfl Try.func111 (by kernel_rfl) rfl #[.slice A0 l0.length c0] rfl qG ?_;(with_reducible refine(bL.calls k (fun k_=> (P0_ k_∨w.heap.size≤k_)) _ _ l0 t101 t104 _ ?side1 A4.out).mono ?_);(case side1=>exact HO0.out);rintro e w64 ⟨v102,rfl,ho0,hb⟩;refine⟨_,rfl,?_⟩;replace HO0:=zA (Kd.V_elder' (qV_ HO0.out) (Kd.N_base ho0) hb);have HO103:=zA (Kd.N_lower (Kd.N_mono (ok':=fun k_=> (P0_ k_∨w.heap.size≤k_)) ho0 (fun k_ hk_=>Or.elim hk_ (fun hs_=>hs_) (fun hn_=> (.inr (Nat.le_trans (zW qB) hn_))))) (zW qB));replace HB:=zA (zV qB hb);(try clear hb);(try clear ho0)))
 go_ret2
 exact⟨_,qE,by first|exact Kd.S_nil _ _ _ _ _|exact Kd.N_nil _ _ _ _ _|exact Kd.V_nil _ _ _ _ _|exact Kd.Q_nil _ _ _ _ _|exact Kd.R_nil _ _ _ _ _,qB⟩
end Go.Proofs.Ytefhljhpcpajgaa.F
