-- by prune.py (own program),out of the print
import Derived.Deep.Slices
import Derived.ChangeArms
import Derived.WideShapes
import Derived.OpenShut
import Derived.Test.YtdpcgigjlcpofaaRows
import Derived.ProofKit
import Derived.ShutString
import Derived.ChangeOld
import Derived.SizedLaws
import Derived.Carry
import Derived.Test.YtdpcgigjlcpofaaZBatchCodes7
set_option maxRecDepth 100000
set_option linter.unusedVariables false
set_option linter.unusedSimpArgs false
namespace Go.Proofs.Ytdpcgigjlcpofaa.Q
open Go.RowKit Ytdpcgigjlcpofaa.F YtdpcgigjlcpofaaX YtdpcgigjlcpofaaW.PrintWords YtdpcgigjlcpofaaW.PrintLast YtdpcgigjlcpofaaW.PrintMore
abbrev BoT:=S166
theorem rdR {l:List RwT} {i:Nat} (h:i < l.length):rd_T164 l (i:Int)=l[i] :=by
  unfold rd_T164;simp[h]
theorem rdRA {A B:List RwT} {x:RwT} {i:Nat} (h:A.length=i):rd_T164 (A++x::B) (i:Int)=x:=by
  subst h
  rw[rdR (by simp)];simp
theorem rdS {s:List (List RwT)} {i:Nat} (h:i < s.length):rd_L22 s (i:Int)=s[i] :=by
  unfold rd_L22;simp[List.getD_eq_getElem?_getD,h]
theorem rdO {l:List BoT} {i:Nat} (h:i < l.length):rd_T166 l (i:Int)=l[i] :=by
  unfold rd_T166;simp[h]
theorem setIB {A B:List Int} {x v:Int} {i:Nat} (h:A.length=i):(A++x::B).set ((i:Int)).toNat v=A++v::B:=by
  subst h;simp
theorem ids_len (l:List RwT):(idsT l).length=l.length:=by unfold idsT;simp
theorem ids_l0 {n:Int} (hn:n≤1000): ∀ (B A:List RwT),((A++B).length:Int)=n→Ev (fun k=>bT.l0 k (idsT A++List.replicate B.length 0) (A++B) n (A.length:Int)) (idsT (A++B))
  | [],A,h=>by
    simp only[List.length_append,List.length_nil] at h
    refine Ev.step (fun k=>by simp only[bT.l0];rfl) (Ev.neg (by omega) (Ev.ok ?_))
    simp
  |x::B,A,h=>by
    have h2:=h
    simp only[List.length_append,List.length_cons] at h
    refine Ev.step (fun k=>by simp only[bT.l0];rfl) (Ev.pos (by omega) (Ev.pos (by omega) (Ev.pos (by simp only[List.length_append,List.length_cons];omega) ?_)))
    simp only[rdRA rfl]
    refine Ev.pos (by simp[idsT];omega) ?_
    rw[List.length_cons,List.replicate_succ,setIB (ids_len A),wrap_eq (by omega) (by omega)]
    have:=ids_l0 hn B (A++ [x]) (by simp only[List.length_append,List.length_cons,List.length_nil] at h2⊢;omega)
    simp only[List.length_append,List.length_cons,List.length_nil,List.append_assoc,List.singleton_append,idsT,List.map_append,List.map_cons,List.map_nil] at this⊢
    exact this
theorem ids_f {l:List RwT} (h:l.length≤1000):Ev (fun k=>bT.f k l) (idsT l):=by
  unfold bT.f
  refine Ev.pos (by omega) (Ev.pos (by rw[Int.toNat_natCast];omega) ?_)
  rw[Int.toNat_natCast]
  have:=ids_l0 (n:=(l.length:Int)) (by omega) l [] (by simp)
  simpa [idsT] using this
theorem bfind_f {l:List RwT} (h:l.length≤1000) (id:Int):Ev (fun k=>bL.f k l id) (find (idsT l) id):=by
  unfold bL.f
  exact Ev.bind (ids_f h) (Ev.bind (rows_Find_f (by rw[ids_len];omega)) (Ev.ok rfl))
theorem find_T {l:List RwT} (h:okT l) (id:Int):find (idsT l) id=((posT l id:Int),decide (id ∈ idsT l)):=by
  unfold find
  by_cases c:id ∈ idsT l
  · rw[if_pos c,decide_eq_true c,idxOf_sorted (sort_ids.1 h.sort) c]
    rfl
  rw[if_neg c,if_pos h.2.1,decide_eq_false c]
  rfl
def longB (l:List RwT):Bool:=l.any fun r=>decide (200 < r.f1.size)
def longI:Nat→List RwT→Int
  |_,[] => -1
  |i,r::l=>if 200 < r.f1.size then(i:Int)else longI (i+1) l
theorem longI_any: ∀ (l:List RwT) (i:Nat),decide (longI i l≥0)=longB l
  | [],i=>rfl
  |r::l,i=>by
    unfold longI longB
    rw[List.any_cons]
    by_cases c:200 < r.f1.size
    · rw[if_pos c,decide_eq_true c,Bool.true_or]
      exact decide_eq_true (by omega)
    rw[if_neg c,decide_eq_false c,Bool.false_or]
    exact longI_any l (i+1)
theorem long_l0 {l:List RwT} (hl:l.length≤1000) (d:Nat): ∀ i:Nat,l.length - i=d→i≤l.length→Ev (fun k=>aM.l0 k l (l.length:Int) (i:Int)) (longI i (l.drop i)):=by
  induction d with
  |zero=>
    intro i hd hi
    refine Ev.step (fun k=>by simp only[aM.l0];rfl) (Ev.neg (by omega) (Ev.ok ?_))
    rw[List.drop_eq_nil_of_le (by omega)]
    rfl
  |succ d ih=>
    intro i hd hi
    have h:i < l.length:=by omega
    refine Ev.step (fun k=>by simp only[aM.l0];rfl) (Ev.pos (by omega) (Ev.pos (by omega) (Ev.pos (by omega) ?_)))
    rw[rdR h,wrap_eq (x:=(i:Int)+1) (by omega) (by omega),drop_cons h]
    refine Q.Ev.bindc (show cW.f l[i].f0 l[i].f1=some (decide ((l[i].f1.size:Int) > 200))from rfl) (Q.Ev.ite (fun c=>Ev.ok ?_) (fun c=>?_))
    · have:=of_decide_eq_true c
      unfold longI
      rw[if_pos (by omega)]
    have:=of_decide_eq_false (Bool.eq_false_iff.2 c)
    unfold longI
    rw[if_neg (by omega)]
    exact ih (i+1) (by omega) (by omega)
theorem long_f {l:List RwT} (hl:l.length≤1000):Ev (fun k=>bM.f k l) (longB l):=by
  unfold bM.f aM.f
  have:=long_l0 hl l.length 0 (by omega) (by omega)
  rw[List.drop_zero] at this
  exact Ev.bind this (Ev.ok (longI_any l 0))
theorem longB_no {l:List RwT} :longB l=false↔ ∀ r ∈ l,r.f1.size≤200:=by
  unfold longB
  rw[List.any_eq_false]
  exact forall_congr' fun r=>forall_congr' fun hr=>by simp
instance (l:List RwT):Decidable (okT l):=by unfold okT;infer_instance
instance (s:List (List RwT)):Decidable (okS s):=by unfold okS;infer_instance
def chkS (s:List (List RwT)):Int:=if okS s then 0 else 40
theorem chk_zero_S {s:List (List RwT)} :chkS s=0↔okS s:=by
  unfold chkS
  by_cases c:okS s
  · rw[if_pos c];exact⟨fun _=>c,fun _=>rfl⟩
  rw[if_neg c];exact⟨fun h=>by omega,fun h=> (c h).elim⟩
theorem chk_bad_S {s:List (List RwT)} (h:chkS s≠0):chkS s=40:=by
  unfold chkS at h⊢
  by_cases c:okS s
  · rw[if_pos c] at h;exact(h rfl).elim
  rw[if_neg c]
def chkL (s:List (List RwT)):Int:=if ∀ l ∈ s,okT l then 0 else 40
theorem chkL_cons {l:List RwT} {s:List (List RwT)} (h:okT l):chkL (l::s)=chkL s:=by
  unfold chkL
  by_cases c: ∀ x ∈ s,okT x
  · have g: ∀ x ∈ l::s,okT x:=fun x hx=>by
      rcases List.mem_cons.1 hx with rfl|hx
      · exact h
      exact c x hx
    rw[if_pos c,if_pos g]
  rw[if_neg c,if_neg (fun q=>c fun x hx=>q x (List.mem_cons_of_mem _ hx))]
theorem chkL_bad {l:List RwT} {s:List (List RwT)} (h: ¬ okT l):chkL (l::s)=40:=if_neg fun q=>h (q l List.mem_cons_self)
def smallS (s:List (List RwT)):Prop:=s.length≤100∧∀ l ∈ s,l.length≤1000
theorem okS.small {s:List (List RwT)} (h:okS s):smallS s:=⟨by have:=h.1;omega,fun l hl=>by have:=(h.2 l hl).1;omega⟩
theorem check_l0 {s:List (List RwT)} (h:smallS s) (d:Nat): ∀ i:Nat,s.length - i=d→i≤s.length→Ev (fun k=>aU.l0 k s (s.length:Int) (i:Int)) (chkL (s.drop i)):=by
  have h1:=h.1
  induction d with
  |zero=>
    intro i hd hi
    refine Ev.step (fun k=>by simp only[aU.l0];rfl) (Ev.neg (by omega) (Ev.ok ?_))
    rw[List.drop_eq_nil_of_le (by omega)]
    rfl
  |succ d ih=>
    intro i hd hi
    have hi2:i < s.length:=by omega
    have hl:=h.2 _ (List.getElem_mem hi2)
    refine Ev.step (fun k=>by simp only[aU.l0];rfl) (Ev.pos (by omega) (Ev.pos (by omega) (Ev.pos (by omega) ?_)))
    rw[rdS hi2,wrap_eq (x:=(i:Int)+1) (by omega) (by omega),drop_cons hi2]
    refine Q.Ev.ite (fun c=>Ev.ok ?_) (fun c=>Ev.bind (ids_f hl) (Ev.bind (rows_Rising_f (by rw[ids_len];omega)) (Q.Ev.ite (fun c2=>Ev.bind (long_f hl) (Q.Ev.ite (fun c3=>Ev.ok ?_) (fun c3=>?_))) (fun c2=>Ev.ok ?_))))
    · exact(chkL_bad fun q=>by have:=q.1;omega).symm
    · refine(chkL_bad fun q=>?_).symm
      rw[longB_no.2 q.2.2] at c3
      exact Bool.false_ne_true c3
    · rw[chkL_cons ⟨by omega,c2,longB_no.1 (Bool.eq_false_iff.2 c3)⟩]
      exact ih (i+1) (by omega) (by omega)
    exact(chkL_bad fun q=>c2 q.2.1).symm
theorem bcheck_f {s:List (List RwT)} (h:smallS s):Ev (fun k=>aU.f k s) (chkS s):=by
  unfold aU.f
  refine Q.Ev.ite (fun c=>Ev.ok ?_) (fun c=>?_)
  · unfold chkS
    rw[if_neg fun q=>by have:=q.1;omega]
  have:=check_l0 h s.length 0 (by omega) (by omega)
  rw[List.drop_zero] at this
  refine Ev.eq this ?_
  unfold chkL chkS
  by_cases q: ∀ l ∈ s,okT l
  · rw[if_pos q,if_pos (show okS s from⟨by omega,q⟩)]
  rw[if_neg q,if_neg (show ¬ okS s from fun w=>q w.2)]
theorem at_in {l:List RwT} (h:okT l) {id:Int} (hm:id ∈ idsT l): ∃ hi:posT l id < l.length,l[posT l id].f0=id∧l[posT l id].f1=textT l id:=by
  obtain⟨A,r,B,rfl,hr,hp,_⟩:=split_in h.sort hm
  refine⟨by rw[hp];simp,?_⟩
  have e:(A++r::B)[posT (A++r::B) id]'(by rw[hp];simp)=r:=by
    rw[List.getElem_append_right (by omega)]
    simp[hp]
  rw[e,←text_in h.sort (r:=r) (by simp),hr]
  exact⟨rfl,rfl⟩
theorem getD_S {s:List (List RwT)} {i:Nat} (h:i < s.length):s.getD i [] =s[i] :=by simp[h]
def opX (o:BoT):OpX:=⟨o.f0,o.f1,o.f2,o.f3⟩
def ofX (o:OpX):BoT:=⟨o.tb,o.k,o.id,o.tx⟩
end Go.Proofs.Ytdpcgigjlcpofaa.Q
namespace Go.Proofs.Ytdpcgigjlcpofaa.Q
open Go.RowKit YtdpcgigjlcpofaaW.PrintWords YtdpcgigjlcpofaaW.PrintLast YtdpcgigjlcpofaaW.PrintMore
def beL:Nat→Nat→List UInt8
  |0,_=> []
  |w+1,n=>beL w (n / 256)++ [UInt8.ofNat n]
def beN (l:List UInt8):Nat:=l.foldl (fun a b=>256 * a+b.toNat) 0
theorem beL_length (w:Nat): ∀ n,(beL w n).length=w:=by
  induction w with
  |zero=>intro n;rfl
  |succ w ih=>intro n;simp[beL,ih]
theorem beN_append (a:List UInt8) (b:UInt8):beN (a++ [b])=256 * beN a+b.toNat:=by
  simp[beN]
theorem toNat_ofNat (n:Nat):(UInt8.ofNat n).toNat=n % 256:=by simp
theorem snoc_cases {α:Type} (l:List α):l=[]∨∃ a b,l=a++ [b] :=by
  rcases List.eq_nil_or_concat l with h|⟨a,b,h⟩
  · exact .inl h
  exact .inr ⟨a,b,by simpa using h⟩
theorem beL_beN (w:Nat): ∀ l:List UInt8,l.length=w→beL w (beN l)=l:=by
  induction w with
  |zero=>intro l h;rw[List.eq_nil_of_length_eq_zero h];rfl
  |succ w ih=>
    intro l h
    rcases snoc_cases l with rfl|⟨a,b,rfl⟩
    · simp at h
    have hb:=b.toNat_lt
    rw[beL,beN_append,show(256 * beN a+b.toNat) / 256=beN a by omega,ih a (by simpa using h)]
    congr 2
    apply UInt8.toNat_inj.1
    rw[toNat_ofNat]
    omega
theorem beN_lt (w:Nat): ∀ l:List UInt8,l.length=w→beN l < 256 ^ w:=by
  induction w with
  |zero=>intro l h;rw[List.eq_nil_of_length_eq_zero h];simp[beN]
  |succ w ih=>
    intro l h
    rcases snoc_cases l with rfl|⟨a,b,rfl⟩
    · simp at h
    have hb:=b.toNat_lt
    have:=ih a (by simpa using h)
    rw[beN_append,Nat.pow_succ]
    omega
def bytesB (l:List UInt8):ByteArray:=⟨l.toArray⟩
theorem bytesB_data (l:List UInt8):(bytesB l).data.toList=l:=rfl
theorem bytesB_size (l:List UInt8):(bytesB l).size=l.length:=by simp[bytesB,ByteArray.size]
theorem ext_list {a b:ByteArray} (h:a.data.toList=b.data.toList):a=b:=by
  cases a;cases b;simpa [Array.toList_inj] using h
theorem bytesB_append (a b:List UInt8):bytesB a++bytesB b=bytesB (a++b):=by
  apply ext_list;simp[bytesB,ByteArray.data_append]
theorem data_append (a b:ByteArray):(a++b).data.toList=a.data.toList++b.data.toList:=by simp[ByteArray.data_append]
theorem data_extract (a:ByteArray) (i j:Nat):(a.extract i j).data.toList=(a.data.toList.take j).drop i:=by
  rw[ByteArray.data_extract,Array.toList_extract,List.extract_eq_take_drop,List.drop_take]
theorem size_data (a:ByteArray):a.data.toList.length=a.size:=by rw[Array.length_toList];rfl
theorem bt_data (s:ByteArray) (i:Nat) (h:i < s.size):bt s (i:Int)=((s.data.toList[i]'(by rw[size_data];exact h)).toNat:Int):=by
  unfold bt
  rw[dif_pos (by simpa using h)]
  simp[ByteArray.getElem_eq_getElem_data]
def wide (w:Int):Prop:=w=1∨w=2∨w=4∨w=8
instance (w:Int):Decidable (wide w):=by unfold wide;infer_instance
def putS (n w:Int):ByteArray × Int:=if wide w then(if 0≤n∧n < 256 ^ w.toNat then(bytesB (beL w.toNat n.toNat),0)else(⟨#[]⟩,8))else(⟨#[]⟩,2)
def numAt (s:ByteArray) (at_ w:Nat):Nat:=beN ((s.data.toList.drop at_).take w)
def getS (s:ByteArray) (at_ w:Int):Int × Int × Int:=
  if wide w∧0≤at_∧at_≤s.size then
    (if s.size - at_ < w then(0,0,4)else if(numAt s at_.toNat w.toNat:Int) > 9223372036854775807 then(0,0,8)else((numAt s at_.toNat w.toNat:Int),at_+w,0))
  else(0,0,2)
def layS (t:ByteArray):ByteArray × Int:=if t.size > 65535 then(⟨#[]⟩,3)else(bytesB (beL 2 t.size)++t,0)
def takeS (s:ByteArray) (at_ most:Int):ByteArray × Int × Int:=
  if most < 0 then(⟨#[]⟩,0,2)else
  if(getS s at_ 2).2.2=0 then
    (if(getS s at_ 2).1 > most then(⟨#[]⟩,0,3)else if(getS s at_ 2).1 > s.size - (getS s at_ 2).2.1 then(⟨#[]⟩,0,4)else
      (s.extract (getS s at_ 2).2.1.toNat ((getS s at_ 2).2.1+(getS s at_ 2).1).toNat,(getS s at_ 2).2.1+(getS s at_ 2).1,0))
  else(⟨#[]⟩,0,(getS s at_ 2).2.2)
theorem wide_nat {w:Int} (h:wide w):0 < w∧w≤8:=by unfold wide at h;omega
theorem pow_cast {a w:Nat} (h:a < 256 ^ w):(a:Int) < 256 ^ w:=by
  have:=Int.ofNat_lt.2 h
  rw[Int.natCast_pow] at this
  exact this
theorem beN_from (y:List UInt8): ∀ a:Nat,y.foldl (fun a b=>256 * a+b.toNat) a=a * 256 ^ y.length+beN y:=by
  induction y with
  |nil=>intro a;simp[beN]
  |cons b y ih=>
    intro a
    have h:=ih (256 * 0+b.toNat)
    unfold beN at h⊢
    simp only[List.foldl_cons,List.length_cons]
    rw[ih,h,Nat.pow_succ,Nat.add_mul,Nat.mul_zero,Nat.zero_add]
    unfold beN
    rw[←Nat.add_assoc,Nat.mul_comm 256 a,Nat.mul_assoc,Nat.mul_comm 256 (256 ^ y.length)]
theorem numAt_split {s:ByteArray} {a i d:Nat} (h:a+i+d≤s.size):(numAt s a (i+d):Int)=(numAt s a i:Int) * 256 ^ d+(numAt s (a+i) d:Int):=by
  have e:numAt s a (i+d)=numAt s a i * 256 ^ d+numAt s (a+i) d:=by
    unfold numAt
    rw[List.take_add,List.drop_drop]
    have:=beN_from (((s.data.toList).drop (a+i)).take d) (beN (((s.data.toList).drop a).take i))
    rw[List.length_take,List.length_drop,size_data,Nat.min_eq_left (by omega)] at this
    rw[←this]
    unfold beN
    rw[List.foldl_append]
  rw[e,Int.natCast_add,Int.natCast_mul,Int.natCast_pow]
  rfl
theorem getS_ok {s:ByteArray} {a w n tt:Int} (h:getS s a w=(n,tt,0)):wide w∧0≤a∧a+w≤s.size∧tt=a+w∧n=(numAt s a.toNat w.toNat:Int)∧n≤9223372036854775807∧0≤n:=by
  unfold getS at h
  by_cases h1:wide w∧0≤a∧a≤s.size
  · rw[if_pos h1] at h
    by_cases h2:s.size - a < w
    · rw[if_pos h2] at h;simp at h
    rw[if_neg h2] at h
    by_cases h3:(numAt s a.toNat w.toNat:Int) > 9223372036854775807
    · rw[if_pos h3] at h;simp at h
    rw[if_neg h3] at h
    simp only[Prod.mk.injEq] at h
    obtain⟨rfl,rfl,_⟩:=h
    exact⟨h1.1,h1.2.1,by omega,rfl,rfl,by omega,by omega⟩
  rw[if_neg h1] at h;simp at h
theorem putS_ok {n w:Int} {b:ByteArray} (h:putS n w=(b,0)):wide w∧0≤n∧n < 256 ^ w.toNat∧b=bytesB (beL w.toNat n.toNat):=by
  unfold putS at h
  by_cases h1:wide w
  · rw[if_pos h1] at h
    by_cases h2:0≤n∧n < 256 ^ w.toNat
    · rw[if_pos h2] at h
      exact⟨h1,h2.1,h2.2,(Prod.mk.inj h).1.symm⟩
    rw[if_neg h2] at h;exact absurd (Prod.mk.inj h).2 (by decide)
  rw[if_neg h1] at h;exact absurd (Prod.mk.inj h).2 (by decide)
theorem numAt_lt {s:ByteArray} {a w:Nat} (h:a+w≤s.size):numAt s a w < 256 ^ w:=by
  apply beN_lt
  rw[List.length_take,List.length_drop,size_data];omega
theorem put_of_get {s:ByteArray} {a w n tt:Int} (h:getS s a w=(n,tt,0)):putS n w=(s.extract a.toNat tt.toNat,0):=by
  obtain⟨hw,ha,hs,rfl,rfl,hn,_⟩:=getS_ok h
  have hw':=wide_nat hw
  have hl:=numAt_lt (s:=s) (a:=a.toNat) (w:=w.toNat) (by omega)
  unfold putS
  rw[if_pos hw,if_pos ⟨by omega,pow_cast hl⟩]
  congr 1
  apply ext_list
  rw[bytesB_data,data_extract,Int.toNat_natCast,numAt,show(a+w).toNat=a.toNat+w.toNat by omega]
  rw[beL_beN]
  · rw[List.drop_take,Nat.add_sub_cancel_left]
  rw[List.length_take,List.length_drop,size_data];omega
theorem put2 {n:Nat} (h:n < 65536):putS n 2=(bytesB (beL 2 n),0):=by
  unfold putS
  rw[if_pos (by decide),if_pos ⟨by omega,by show(n:Int) < 256 ^ 2;omega⟩];rfl
def natI (l:List UInt8):List Int:=l.map (fun b=> (b.toNat:Int))
theorem strOfNums_nat (l:List UInt8):strOfNums (natI l)=bytesB l:=by
  unfold strOfNums natI bytesB
  rw[List.map_map]
  congr 2
  exact(List.map_congr_left fun b _=>by simp).trans (List.map_id l)
end Go.Proofs.Ytdpcgigjlcpofaa.Q
namespace Go.Proofs.Ytdpcgigjlcpofaa.Q
open Go.RowKit Ytdpcgigjlcpofaa.F YtdpcgigjlcpofaaW.PrintWords YtdpcgigjlcpofaaW.PrintLast YtdpcgigjlcpofaaW.PrintMore
theorem wide_dec (w:Int):(if w=1 then some true else if w=2 then some true else if w=4 then some true else some (w==8))=some (decide (wide w)):=by
  unfold wide
  by_cases h1:w=1
  · rw[if_pos h1];simp[h1]
  rw[if_neg h1]
  by_cases h2:w=2
  · rw[if_pos h2];simp[h2]
  rw[if_neg h2]
  by_cases h4:w=4
  · rw[if_pos h4];simp[h4]
  rw[if_neg h4]
  by_cases h8:w=8
  · simp[h8]
  simp[h1,h2,h4,h8]
theorem octet_wide_f (w:Int):cN.f w=some (decide (wide w)):=by
  unfold cN.f
  exact wide_dec w
theorem ref05_wide_f (w:Int):cB.f w=some (decide (wide w)):=by
  unfold cB.f
  exact wide_dec w
theorem octet_inside_f (s:ByteArray) (a:Int):cT.f s a=some (decide (0≤a∧a≤s.size)):=by
  unfold cT.f
  by_cases h:a≥0
  · rw[if_pos h];congr 1;exact decide_eq_decide.2 ⟨fun x=> ⟨h,x⟩,fun x=>x.2⟩
  rw[if_neg h];congr 1;exact(decide_eq_false (fun x=>h x.1)).symm
theorem byte_mod (n:Int) (h:0≤n):n % 256=(((UInt8.ofNat n.toNat).toNat:Nat):Int):=by
  rw[toNat_ofNat];omega
theorem octet_put_l0 (d:Nat): ∀ (n:Int) (t:List UInt8),0≤n→d≤8→Ev (fun k=>bI.l0 k n (List.replicate d 0++natI t) ((d:Int) - 1)) (bytesB (beL d n.toNat++t),0):=by
  induction d with
  |zero=>
    intro n t hn hd
    refine Ev.step (fun k=>by simp only[bI.l0];rfl) ?_
    refine Ev.neg (by omega) (Ev.ok ?_)
    simp only[List.replicate_zero,List.nil_append,beL]
    rw[strOfNums_nat]
  |succ d ih=>
    intro n t hn hd
    refine Ev.step (fun k=>by simp only[bI.l0];rfl) ?_
    refine Ev.pos (by omega) (Ev.pos (by omega) (Ev.pos (by simp only[List.length_append,List.length_replicate];omega) ?_))
    have e1:((((d+1:Nat):Int) - 1):Int).toNat=d:=by omega
    have e2:wrap64 (((d+1:Nat):Int) - 1 - 1)=(d:Int) - 1:=by rw[wrap_eq (by omega) (by omega)];omega
    have e3:(List.replicate (d+1) 0++natI t).set d (n % 256)=List.replicate d 0++natI (UInt8.ofNat n.toNat::t):=by
      rw[List.replicate_succ',List.append_assoc,List.set_append_right _ _ (by simp)]
      simp only[List.length_replicate,Nat.sub_self,List.cons_append,List.nil_append,List.set_cons_zero,natI,List.map_cons,byte_mod n hn]
    rw[e1,e2,e3]
    refine Ev.eq (ih (n / 256) (UInt8.ofNat n.toNat::t) (by omega) (by omega)) ?_
    rw[beL,show(n / 256).toNat=n.toNat / 256 by omega,List.append_assoc]
    rfl
theorem octet_put_j0 {n w:Int} (hw:wide w) (hn:0≤n) (hlt:n < 256 ^ w.toNat):Ev (fun k=>bI.j0 k n w false) (putS n w):=by
  have hw':=wide_nat hw
  refine Ev.step (fun k=>by simp only[bI.j0];rfl) ?_
  refine Ev.neg (by decide) (Ev.pos (by omega) (Ev.pos (by omega) ?_))
  have h:=octet_put_l0 w.toNat n [] hn (by omega)
  simp only[natI,List.map_nil,List.append_nil] at h
  rw[wrap_eq (by omega) (by omega),show w - 1=((w.toNat:Nat):Int) - 1 by omega]
  refine Ev.eq h ?_
  unfold putS
  rw[if_pos hw,if_pos ⟨hn,hlt⟩]
theorem octet_put_t {n w:Int} (hw:wide w) (h: ¬ (0≤n∧n < 256 ^ w.toNat)):Ev (fun k=>bI.j0 k n w true) (putS n w):=by
  refine Ev.step (fun k=>by simp only[bI.j0];rfl) ?_
  refine Ev.pos trivial (Ev.ok ?_)
  unfold putS
  rw[if_pos hw,if_neg h]
theorem octet_put_f {n:Int} (w:Int) (h1:n≤9223372036854775807):Ev (fun k=>bI.f k n w) (putS n w):=by
  unfold bI.f
  refine Ev.bindc (octet_wide_f w) ?_
  by_cases hw:wide w
  · refine Ev.pos (decide_eq_true hw) ?_
    refine Ev.ite (fun h=>octet_put_t hw (by omega)) (fun h=>?_)
    have key: ∀ b:Bool,(b=true↔ ¬ n < 256 ^ w.toNat)→Ev (fun k=>bI.j0 k n w b) (putS n w):=by
      intro b hb
      cases b with
      |true=>exact octet_put_t hw (fun x=> (hb.1 rfl) x.2)
      |false=>exact octet_put_j0 hw (by omega) (Classical.byContradiction fun x=>by have:=hb.2 x;cases this)
    rcases hw with rfl|rfl|rfl|rfl
    · rw[show wrap64 (8 * 1)=8 from wrap_eq (by decide) (by decide)]
      refine Ev.pos (by decide) (Ev.pos (by decide) (key _ ?_))
      rw[decide_eq_true_eq,show shr .i64 n 8=n / 256 from rfl]
      show n / 256 > 0↔ ¬ n < 256
      omega
    · rw[show wrap64 (8 * 2)=16 from wrap_eq (by decide) (by decide)]
      refine Ev.pos (by decide) (Ev.pos (by decide) (key _ ?_))
      rw[decide_eq_true_eq,show shr .i64 n 16=n / 65536 from rfl]
      show n / 65536 > 0↔ ¬ n < 65536
      omega
    · rw[show wrap64 (8 * 4)=32 from wrap_eq (by decide) (by decide)]
      refine Ev.pos (by decide) (Ev.pos (by decide) (key _ ?_))
      rw[decide_eq_true_eq,show shr .i64 n 32=n / 4294967296 from rfl]
      show n / 4294967296 > 0↔ ¬ n < 4294967296
      omega
    refine Ev.neg (by decide) (key false ?_)
    show false=true↔ ¬ n < 18446744073709551616
    simp
    omega
  refine Ev.neg (fun x=>hw (of_decide_eq_true x)) (Ev.ok ?_)
  unfold putS
  rw[if_neg hw]
theorem ref05_put_l0 (d:Nat): ∀ (n w:Int) (i:Nat) (t:List UInt8),0≤n→n≤9223372036854775807→w≤8→w - i=d→t.length≤i→Ev (fun k=>bD.l0 k n w (bytesB t) (i:Int)) (if n < 256 ^ d then(bytesB (beL d n.toNat++t),0)else(⟨#[]⟩,8)):=by
  induction d with
  |zero=>
    intro n w i t hn hn' hw hd ht
    refine Ev.step (fun k=>by simp only[bD.l0];rfl) ?_
    refine Ev.neg (by omega) (Ev.ite (fun h=>Ev.ok ?_) (fun h=>Ev.ok ?_))
    · rw[if_neg (show ¬ n < 256 ^ 0 by show ¬ n < 1;omega)]
    rw[if_pos (show n < 256 ^ 0 by show n < 1;omega)];rfl
  |succ d ih=>
    intro n w i t hn hn' hw hd ht
    refine Ev.step (fun k=>by simp only[bD.l0];rfl) ?_
    refine Ev.pos (by omega) (Ev.bindc rfl ?_)
    have e1:strOfNums [(Int.tmod n 256) % 256] =bytesB [UInt8.ofNat n.toNat] :=by
      rw[Int.tmod_eq_emod_of_nonneg hn,Int.emod_emod,byte_mod n hn]
      exact strOfNums_nat [UInt8.ofNat n.toNat]
    have e2:wrap64 (Int.tdiv n 256)=n / 256:=by
      rw[Int.tdiv_eq_ediv_of_nonneg hn,wrap_eq (by omega) (by omega)]
    rw[e1,e2,wrap_eq (by omega) (by omega),bytesB_append]
    refine Ev.pos (by simp only[bytesB_size,List.length_cons,List.length_nil];omega) ?_
    refine Ev.eq (ih (n / 256) w (i+1) _ (by omega) (by omega) hw (by omega) (by simp only[List.length_append,List.length_cons,List.length_nil];omega)) ?_
    have e3:n / 256 < 256 ^ d↔n < 256 ^ (d+1):=by
      rw[Int.pow_succ]
      generalize (256:Int) ^ d=P
      omega
    by_cases h:n / 256 < 256 ^ d
    · rw[if_pos h,if_pos (e3.1 h),beL,show(n / 256).toNat=n.toNat / 256 by omega,List.append_assoc]
    rw[if_neg h,if_neg (fun x=>h (e3.2 x))]
theorem ref05_put_f {n:Int} (w:Int) (h1:n≤9223372036854775807):Ev (fun k=>bD.f k n w) (putS n w):=by
  unfold bD.f putS
  refine Ev.bindc (ref05_wide_f w) ?_
  by_cases hw:wide w
  · have hw':=wide_nat hw
    rw[if_pos hw]
    refine Ev.pos (decide_eq_true hw) (Ev.ite (fun h=>Ev.ok ?_) (fun h=>?_))
    · rw[if_neg (by omega)]
    refine Ev.eq (ref05_put_l0 w.toNat n w 0 [] (by omega) h1 (by omega) (by omega) (by simp)) ?_
    rw[List.append_nil]
    by_cases hlt:n < 256 ^ w.toNat
    · rw[if_pos hlt,if_pos ⟨by omega,hlt⟩]
    rw[if_neg hlt,if_neg (fun x=>hlt x.2)]
  rw[if_neg hw]
  exact Ev.neg (fun x=>hw (of_decide_eq_true x)) (Ev.ok rfl)
theorem numAt_succ {s:ByteArray} {a i:Nat} (h:a+i < s.size):(numAt s a (i+1):Int)=256 *(numAt s a i:Int)+bt s ((a+i:Nat):Int):=by
  have hl:a+i < s.data.toList.length:=by rw[size_data];exact h
  unfold numAt
  rw[List.take_succ_eq_append_getElem (by rw[List.length_drop];omega),beN_append,bt_data s (a+i) h,List.getElem_drop]
  omega
theorem numAt_lt' {s:ByteArray} {a i:Nat} (h:a+i≤s.size):(numAt s a i:Int) < 256 ^ i:=pow_cast (numAt_lt h)
theorem pow_le8 {i:Nat} (h:i≤7):(256:Int) ^ i≤72057594037927936:=by
  have:i=0∨i=1∨i=2∨i=3∨i=4∨i=5∨i=6∨i=7:=by omega
  rcases this with rfl|rfl|rfl|rfl|rfl|rfl|rfl|rfl <;> decide
theorem bt_range (s:ByteArray) (i:Int):0≤bt s i∧bt s i < 256:=by
  unfold bt
  split
  · rename_i h
    have:=(s[i.toNat]'h).toNat_lt
    omega
  omega
theorem or_byte {x y:Int} (h0:0≤x) (h1:x < 72057594037927936) (h2:0≤y) (h3:y < 256):Go.bits .or .u64 (IntKind.u64.wrap (x * 256)) (IntKind.u64.wrap y)=256 * x+y:=by
  rw[u64_eq (x:=x * 256) (by omega) (by omega),u64_eq (x:=y) (by omega) (by omega)]
  rw[bits_join .u64 64 (by decide) (fun n h0 h1=>u64_eq h0 h1) 8 (x * 256) y (by omega) (by omega) (by omega) (by omega) (by omega) (by omega)]
  omega
theorem getS_in {s:ByteArray} {a w:Int} (hw:wide w) (h0:0≤a) (h1:a+w≤s.size):getS s a w=if(numAt s a.toNat w.toNat:Int) > 9223372036854775807 then(0,0,8)else((numAt s a.toNat w.toNat:Int),a+w,0):=by
  have hw':=wide_nat hw
  unfold getS
  rw[if_pos ⟨hw,h0,by omega⟩,if_neg (by omega)]
theorem octet_get_l0 {s:ByteArray} {a w:Int} (hs:s.size≤9223372036854775807) (hw:wide w) (h0:0≤a) (h1:a+w≤s.size) (d:Nat): ∀ i:Nat,w - i=d→Ev (fun k=>bJ.l0 k s a w (numAt s a.toNat i:Int) w (i:Int)) (getS s a w):=by
  have hw':=wide_nat hw
  induction d with
  |zero=>
    intro i hi
    refine Ev.step (fun k=>by simp only[bJ.l0];rfl) ?_
    refine Ev.neg (by omega) ?_
    rw[getS_in hw h0 h1,show w.toNat=i by omega]
    refine Ev.ite (fun h=>?_) (fun h=>?_)
    · rw[if_pos h];exact Ev.ok rfl
    rw[if_neg h,wrap_eq (x:=(numAt s a.toNat i:Int)) (by omega) (by omega),wrap_eq (by omega) (by omega)]
    exact Ev.ok rfl
  |succ d ih=>
    intro i hi
    have hlt:=numAt_lt' (s:=s) (a:=a.toNat) (i:=i) (by omega)
    have hp:=pow_le8 (i:=i) (by omega)
    refine Ev.step (fun k=>by simp only[bJ.l0];rfl) ?_
    rw[wrap_eq (x:=a+(i:Int)) (by omega) (by omega),wrap_eq (x:=(i:Int)+1) (by omega) (by omega)]
    refine Ev.pos (by omega) (Ev.pos (by omega) (Ev.pos (by omega) ?_))
    have hb:=bt_range s (a+i)
    rw[or_byte (by omega) (by omega) hb.1 hb.2]
    have e:=numAt_succ (s:=s) (a:=a.toNat) (i:=i) (by omega)
    rw[show((a.toNat+i:Nat):Int)=a+i by omega] at e
    rw[←e]
    exact ih (i+1) (by omega)
theorem octet_get_f {s:ByteArray} (a w:Int) (hs:s.size≤9223372036854775807):Ev (fun k=>bJ.f k s a w) (getS s a w):=by
  have bad: ¬ (wide w∧0≤a∧a≤s.size)→Ev (fun k=>bJ.j0 k s a w true) (getS s a w):=by
    intro h
    refine Ev.step (fun k=>by simp only[bJ.j0];rfl) ?_
    refine Ev.pos trivial (Ev.ok ?_)
    unfold getS
    rw[if_neg h]
  unfold bJ.f
  refine Ev.bindc (octet_wide_f w) ?_
  by_cases hw:wide w
  · have hw':=wide_nat hw
    refine Ev.pos (decide_eq_true hw) (Ev.bindc (octet_inside_f s a) ?_)
    by_cases ha:0≤a∧a≤s.size
    · rw[decide_eq_true ha]
      refine Ev.step (fun k=>by simp only[bJ.j0];rfl) ?_
      refine Ev.neg (by decide) ?_
      rw[wrap_eq (by omega) (by omega)]
      refine Ev.ite (fun h=>Ev.ok ?_) (fun h=>?_)
      · unfold getS
        rw[if_pos ⟨hw,ha⟩,if_pos h]
      exact octet_get_l0 hs hw ha.1 (by omega) w.toNat 0 (by omega)
    rw[decide_eq_false ha]
    exact bad (fun x=>ha x.2)
  exact Ev.neg (fun x=>hw (of_decide_eq_true x)) (bad (fun x=>hw x.1))
theorem ref05_get_l0 {s:ByteArray} {a w:Int} (hs:s.size≤9223372036854775807) (hw:wide w) (h0:0≤a) (h1:a+w≤s.size) (hm:(numAt s a.toNat w.toNat:Int)≤9223372036854775807) (d:Nat): ∀ i:Nat,w - i=d→(numAt s a.toNat i:Int) * 256 ^ d≤9223372036854775807→Ev (fun k=>aG.l0 k s a w (numAt s a.toNat i:Int) (a+i)) ((numAt s a.toNat w.toNat:Int),a+w,0):=by
  have hw':=wide_nat hw
  induction d with
  |zero=>
    intro i hi hb
    refine Ev.step (fun k=>by simp only[aG.l0];rfl) ?_
    rw[wrap_eq (x:=a+w) (by omega) (by omega)]
    refine Ev.neg (by omega) (Ev.ok ?_)
    rw[show w.toNat=i by omega]
  |succ d ih=>
    intro i hi hb
    have hlt:=numAt_lt' (s:=s) (a:=a.toNat) (i:=i) (by omega)
    have hp:=pow_le8 (i:=i) (by omega)
    have hb':=bt_range s (a+i)
    have e:=numAt_succ (s:=s) (a:=a.toNat) (i:=i) (by omega)
    rw[show((a.toNat+i:Nat):Int)=a+i by omega] at e
    have hpos:(0:Int) < 256 ^ d:=Int.pow_pos (by decide)
    have hle:(numAt s a.toNat (i+1):Int) * 256 ^ d≤9223372036854775807:=by
      have key:=numAt_split (s:=s) (a:=a.toNat) (i:=i+1) (d:=d) (by omega)
      rw[show i+1+d=w.toNat by omega] at key
      have h2:(0:Int)≤(numAt s (a.toNat+(i+1)) d:Int):=by omega
      omega
    have hone:(numAt s a.toNat (i+1):Int)≤9223372036854775807:=by
      have h3:(numAt s a.toNat (i+1):Int) * 1≤(numAt s a.toNat (i+1):Int) * 256 ^ d:=Int.mul_le_mul_of_nonneg_left (by omega) (by omega)
      omega
    refine Ev.step (fun k=>by simp only[aG.l0];rfl) ?_
    rw[wrap_eq (x:=a+w) (by omega) (by omega),wrap_eq (x:=256 *(numAt s a.toNat i:Int)) (by omega) (by omega),wrap_eq (x:=bt s (a+i)) (by omega) (by omega),wrap_eq (x:=256 *(numAt s a.toNat i:Int)+bt s (a+i)) (by omega) (by omega),wrap_eq (x:=a+(i:Int)+1) (by omega) (by omega)]
    refine Ev.pos (by omega) (Ev.pos (by omega) (Ev.pos (by omega) ?_))
    rw[←e,show a+(i:Int)+1=a+((i+1:Nat):Int) by omega]
    exact ih (i+1) (by omega) hle
theorem ref05_get_f {s:ByteArray} (a w:Int) (hs:s.size≤9223372036854775807):Ev (fun k=>aG.f k s a w) (getS s a w):=by
  have bad: ¬ (wide w∧0≤a∧a≤s.size)→Ev (fun k=>aG.j0 k s a w true) (getS s a w):=by
    intro h
    refine Ev.step (fun k=>by simp only[aG.j0];rfl) ?_
    refine Ev.pos trivial (Ev.ok ?_)
    unfold getS
    rw[if_neg h]
  unfold aG.f
  refine Ev.bindc (ref05_wide_f w) ?_
  by_cases hw:wide w
  · have hw':=wide_nat hw
    refine Ev.pos (decide_eq_true hw) (Ev.ite (fun h=>bad (by omega)) (fun h=>?_))
    by_cases h1:a > s.size
    · rw[decide_eq_true (show a > (s.size:Int)from h1)]
      exact bad (by omega)
    rw[decide_eq_false (show ¬ a > (s.size:Int)from h1)]
    refine Ev.step (fun k=>by simp only[aG.j0];rfl) ?_
    refine Ev.neg (by decide) ?_
    rw[wrap_eq (by omega) (by omega)]
    refine Ev.ite (fun h2=>Ev.ok ?_) (fun h2=>?_)
    · unfold getS
      rw[if_pos ⟨hw,by omega,by omega⟩,if_pos h2]
    rw[getS_in hw (by omega) (by omega)]
    have fin:(numAt s a.toNat w.toNat:Int)≤9223372036854775807→Ev (fun k=>aG.j1 k s a w false) (if(numAt s a.toNat w.toNat:Int) > 9223372036854775807 then(0,0,8)else((numAt s a.toNat w.toNat:Int),a+w,0)):=by
      intro hm
      rw[if_neg (by omega)]
      refine Ev.step (fun k=>by simp only[aG.j1];rfl) ?_
      refine Ev.neg (by decide) ?_
      have:=ref05_get_l0 hs hw (by omega) (by omega) hm w.toNat 0 (by omega) (by show(0:Int) * _≤_;omega)
      rw[show a+((0:Nat):Int)=a by omega] at this
      exact this
    refine Ev.ite (fun h3=>?_) (fun h3=>?_)
    · subst h3
      refine Ev.pos (by omega) (Ev.pos (by omega) ?_)
      have key:(numAt s a.toNat (Int.toNat 8):Int)=(numAt s a.toNat 1:Int) * 256 ^ 7+(numAt s (a.toNat+1) 7:Int):=numAt_split (s:=s) (a:=a.toNat) (i:=1) (d:=7) (by omega)
      have hl:=numAt_lt' (s:=s) (a:=a.toNat+1) (i:=7) (by omega)
      have e:(numAt s a.toNat 1:Int)=256 *(numAt s a.toNat 0:Int)+bt s ((a.toNat+0:Nat):Int):=numAt_succ (s:=s) (a:=a.toNat) (i:=0) (by omega)
      have e0:(numAt s a.toNat 0:Int)=0:=by unfold numAt;simp[beN]
      rw[e0,show((a.toNat+0:Nat):Int)=a by omega] at e
      have p7:(256:Int) ^ 7=72057594037927936:=by decide
      rw[p7] at key hl
      by_cases h4:bt s a > 127
      · rw[decide_eq_true h4]
        refine Ev.step (fun k=>by simp only[aG.j1];rfl) ?_
        refine Ev.pos trivial (Ev.ok ?_)
        rw[if_pos (by omega)]
      rw[decide_eq_false h4]
      exact fin (by omega)
    have hl:=numAt_lt' (s:=s) (a:=a.toNat) (i:=w.toNat) (by omega)
    have h4:w.toNat≤4:=by unfold wide at hw;omega
    have hp:=pow_le8 (i:=w.toNat) (by omega)
    exact fin (by omega)
  exact Ev.neg (fun x=>hw (of_decide_eq_true x)) (bad (fun x=>hw x.1))
theorem getS2_lt {s:ByteArray} {a n tt:Int} (h:getS s a 2=(n,tt,0)):n < 65536:=(putS_ok (put_of_get h)).2.2.1
theorem octet_lay_f {t:ByteArray} (ht:t.size≤4611686018427387904):Ev (fun k=>cS.f k t) (layS t):=by
  unfold cS.f layS
  refine Ev.ite (fun h=>Ev.ok ?_) (fun h=>?_)
  · rw[if_pos (by omega)]
  rw[if_neg (by omega)]
  refine Ev.bind (octet_put_f 2 (by omega)) ?_
  rw[put2 (by omega)]
  refine Ev.pos ?_ (Ev.ok rfl)
  simp only[bytesB_size,beL_length];omega
theorem ref05_lay_f {t:ByteArray} (ht:t.size≤4611686018427387904):cM.f t=some (layS t):=by
  unfold cM.f layS
  by_cases h:(t.size:Int) > 65535
  · rw[if_pos h,if_pos (by omega)]
  rw[if_neg h,if_neg (by omega),Option.bind_some]
  have e:strOfNums [((t.size:Int) / 256) % 256,(t.size:Int) % 256] =bytesB (beL 2 t.size):=by
    rw[byte_mod _ (by omega),byte_mod (t.size:Int) (by omega)]
    rw[show((t.size:Int) / 256).toNat=t.size / 256 by omega,Int.toNat_natCast]
    exact strOfNums_nat [UInt8.ofNat (t.size / 256),UInt8.ofNat t.size]
  rw[e,if_pos (by simp only[bytesB_size,beL_length];omega)]
theorem octet_take_f {s:ByteArray} (a m:Int) (hs:s.size≤4611686018427387904):Ev (fun k=>cC.f k s a m) (takeS s a m):=by
  unfold cC.f takeS
  refine Ev.ite (fun h=>?_) (fun h=>?_)
  · rw[if_pos h];exact Ev.ok rfl
  rw[if_neg h]
  refine Ev.bind (octet_get_f a 2 (by omega)) ?_
  refine Ev.ite (fun h1=>?_) (fun h1=>?_)
  · rw[if_pos h1]
    have hg:getS s a 2=((getS s a 2).1,(getS s a 2).2.1,0):=by rw[←h1]
    obtain⟨_,h2,h3,h4,h5,h6,h7⟩:=getS_ok hg
    refine Ev.ite (fun h8=>?_) (fun h8=>?_)
    · rw[if_pos h8];exact Ev.ok rfl
    rw[if_neg h8,wrap_eq (x:=(s.size:Int) - (getS s a 2).2.1) (by omega) (by omega)]
    refine Ev.ite (fun h9=>?_) (fun h9=>?_)
    · rw[if_pos h9];exact Ev.ok rfl
    rw[if_neg h9,wrap_eq (by omega) (by omega)]
    exact Ev.pos (by omega) (Ev.pos (by omega) (Ev.pos (by omega) (Ev.ok rfl)))
  rw[if_neg h1];exact Ev.ok rfl
theorem ref05_take_f {s:ByteArray} (a m:Int) (hs:s.size≤4611686018427387904):Ev (fun k=>bE.f k s a m) (takeS s a m):=by
  have bad:m < 0∨a < 0∨a > s.size→Ev (fun k=>bE.j0 k s a m true) (takeS s a m):=by
    intro h
    refine Ev.step (fun k=>by simp only[bE.j0];rfl) ?_
    refine Ev.pos trivial (Ev.ok ?_)
    unfold takeS
    by_cases hm:m < 0
    · rw[if_pos hm]
    rw[if_neg hm]
    have e:getS s a 2=(0,0,2):=by unfold getS;rw[if_neg (by omega)]
    rw[e];rfl
  unfold bE.f
  refine Ev.ite (fun h=>bad (.inl h)) (fun h=>Ev.ite (fun h1=>bad (.inr (.inl h1))) (fun h1=>?_))
  by_cases h2:a > (s.size:Int)
  · rw[decide_eq_true h2];exact bad (.inr (.inr h2))
  rw[decide_eq_false h2]
  refine Ev.step (fun k=>by simp only[bE.j0];rfl) ?_
  refine Ev.neg (by decide) (Ev.bind (ref05_get_f a 2 (by omega)) ?_)
  unfold takeS
  rw[if_neg h]
  refine Ev.ite (fun h1=>?_) (fun h1=>?_)
  · rw[if_pos h1]
    have hg:getS s a 2=((getS s a 2).1,(getS s a 2).2.1,0):=by rw[←h1]
    obtain⟨_,h2,h3,h4,h5,h6,h7⟩:=getS_ok hg
    refine Ev.ite (fun h8=>?_) (fun h8=>?_)
    · rw[if_pos h8];exact Ev.ok rfl
    have h10:=getS2_lt hg
    rw[if_neg h8,wrap_eq (x:=(getS s a 2).2.1+(getS s a 2).1) (by omega) (by omega)]
    refine Ev.ite (fun h9=>?_) (fun h9=>?_)
    · rw[if_pos (by omega)];exact Ev.ok rfl
    rw[if_neg (show ¬ (getS s a 2).1 > (s.size:Int) - (getS s a 2).2.1 by omega)]
    exact Ev.pos (by omega) (Ev.pos (by omega) (Ev.pos (by omega) (Ev.ok rfl)))
  rw[if_neg h1];exact Ev.ok rfl
end Go.Proofs.Ytdpcgigjlcpofaa.Q
namespace Go.Proofs.Ytdpcgigjlcpofaa.Q
open Go.RowKit Ytdpcgigjlcpofaa.F YtdpcgigjlcpofaaX YtdpcgigjlcpofaaW.PrintWords YtdpcgigjlcpofaaW.PrintLast YtdpcgigjlcpofaaW.PrintMore
def flt (a e:Int):Option (Int × Int):=if e=0 then none else some (e,a)
theorem flt0 (a:Int):flt a 0=none:=rfl
theorem flt1 {a e:Int} (h:e≠0):flt a e=some (e,a):=if_neg h
def pc {α:Type} (z:α) (a e0:Int) (r:α × Int × Int):α × Int × Int:=if e0=0 then(if r.2.2=0 then r else(z,a,r.2.2))else(z,a,e0)
theorem pc_bad {α:Type} {z:α} {a e0:Int} {r:α × Int × Int} (h:e0≠0):pc z a e0 r=(z,a,e0):=if_neg h
theorem pc_ok {α:Type} {z:α} {a:Int} {r:α × Int × Int} (h:r.2.2=0):pc z a 0 r=r:=by unfold pc;rw[if_pos rfl,if_pos h]
theorem pc_err {α:Type} {z:α} {a:Int} {r:α × Int × Int} (h:r.2.2≠0):pc z a 0 r=(z,a,r.2.2):=by unfold pc;rw[if_pos rfl,if_neg h]
def bigR (r:Int × Int × Int) (m:Int):Int × Int × Int:=if r.2.2=0∧r.1 > m then(0,0,3)else r
def numR (s:ByteArray) (a e0 w m:Int):Int × Int × Int:=pc 0 a e0 (bigR (getS s a w) m)
def endR (s:ByteArray) (a e0:Int):Int:=if e0=0∧a < s.size then 6 else e0
theorem goes0 (s:ByteArray) (a:Int):bP.f s a none true=some (true,s,a,none,true):=rfl
theorem goes1 (s:ByteArray) (a:Int) (q:Int × Int):bP.f s a (some q) true=some (false,s,a,some q,true):=rfl
theorem done0 (s:ByteArray) (a to_:Int):bQ.f s a none true to_ 0=some (true,s,to_,none,true):=rfl
theorem done1 (s:ByteArray) (a to_:Int) {e:Int} (h:e≠0):bQ.f s a none true to_ e=some (false,s,a,some (e,a),true):=by
  unfold bQ.f;rw[if_neg h]
theorem moved0 (s:ByteArray) (a to_:Int):bV.f s a 0 to_ 0=some (s,to_,0):=rfl
theorem moved1 (s:ByteArray) (a to_:Int) {e:Int} (h:e≠0):bV.f s a 0 to_ e=some (s,a,e):=by
  unfold bV.f;rw[if_neg h]
theorem num_f {s:ByteArray} (a e0 w m:Int) (hs:s.size≤4611686018427387904):Ev (fun k=>aQ.f k s a (flt a e0) true w m) ((numR s a e0 w m).1,s,(numR s a e0 w m).2.1,flt (numR s a e0 w m).2.1 (numR s a e0 w m).2.2,true):=by
  unfold aQ.f numR
  by_cases h0:e0=0
  · subst h0
    rw[flt0]
    refine Ev.bindc (goes0 s a) (Ev.pos rfl (Ev.bind (octet_get_f (s:=s) a w (by omega)) ?_))
    by_cases h1:(getS s a w).2.2=0
    · refine Ev.pos h1 (Ev.step (fun k=>by simp only[aQ.j0];rfl) ?_)
      by_cases h2:(getS s a w).1 > m
      · have e:bigR (getS s a w) m=(0,0,3):=if_pos ⟨h1,h2⟩
        rw[e,pc_err (by decide)]
        refine Ev.pos (decide_eq_true h2) (Ev.bindc (done1 s a _ (by decide)) ?_)
        exact Ev.neg Bool.false_ne_true (Ev.ok rfl)
      have e:bigR (getS s a w) m=getS s a w:=if_neg (fun x=>h2 x.2)
      rw[e,pc_ok h1,h1]
      refine Ev.neg (fun x=>h2 (of_decide_eq_true x)) (Ev.bindc (done0 s a _) ?_)
      exact Ev.pos rfl (Ev.ok rfl)
    refine Ev.neg h1 (Ev.step (fun k=>by simp only[aQ.j0];rfl) ?_)
    have e:bigR (getS s a w) m=getS s a w:=if_neg (fun x=>h1 x.1)
    rw[e,pc_err h1]
    refine Ev.neg (by decide) (Ev.bindc (done1 s a _ h1) ?_)
    refine Ev.neg Bool.false_ne_true (Ev.ok ?_)
    rw[flt1 h1]
  rw[flt1 h0,pc_bad h0]
  refine Ev.bindc (goes1 s a _) (Ev.neg Bool.false_ne_true (Ev.ok ?_))
  rw[flt1 h0]
theorem rnum_f {s:ByteArray} (a e0 w m:Int) (hs:s.size≤4611686018427387904):Ev (fun k=>aZ.f k s a e0 w m) (s,(numR s a e0 w m).2.1,(numR s a e0 w m).2.2,(numR s a e0 w m).1):=by
  unfold aZ.f numR
  by_cases h0:e0=0
  · subst h0
    refine Ev.pos rfl (Ev.bind (ref05_get_f (s:=s) a w (by omega)) ?_)
    by_cases h1:(getS s a w).2.2=0
    · refine Ev.pos h1 (Ev.step (fun k=>by simp only[aZ.j0];rfl) ?_)
      by_cases h2:(getS s a w).1 > m
      · have e:bigR (getS s a w) m=(0,0,3):=if_pos ⟨h1,h2⟩
        rw[e,pc_err (by decide)]
        refine Ev.pos (decide_eq_true h2) (Ev.bindc (moved1 s a _ (by decide)) (Ev.ok rfl))
      have e:bigR (getS s a w) m=getS s a w:=if_neg (fun x=>h2 x.2)
      rw[e,pc_ok h1,h1]
      exact Ev.neg (fun x=>h2 (of_decide_eq_true x)) (Ev.pos rfl (Ev.bindc (moved0 s a _) (Ev.ok rfl)))
    refine Ev.neg h1 (Ev.step (fun k=>by simp only[aZ.j0];rfl) ?_)
    have e:bigR (getS s a w) m=getS s a w:=if_neg (fun x=>h1 x.1)
    rw[e,pc_err h1]
    exact Ev.neg (by decide) (Ev.neg h1 (Ev.bindc (moved1 s a _ h1) (Ev.ok rfl)))
  rw[pc_bad h0]
  exact Ev.neg h0 (Ev.ok rfl)
theorem end_f (s:ByteArray) (a e0:Int):bS.f s a (flt a e0) true=some (s,a,flt a (endR s a e0),true):=by
  unfold bS.f endR
  by_cases h0:e0=0
  · subst h0
    rw[flt0,goes0,Option.bind_some,if_pos rfl]
    by_cases h1:a < s.size
    · rw[if_pos h1,if_pos ⟨rfl,h1⟩,done1 s a _ (by decide)];rfl
    rw[if_neg h1,if_neg (fun x=>h1 x.2)];rfl
  rw[flt1 h0,goes1,Option.bind_some,if_neg Bool.false_ne_true,if_neg (fun x=>h0 x.1),flt1 h0]
theorem rend_f (s:ByteArray) (a e0:Int):cJ.f s a e0=some (s,a,endR s a e0):=by
  unfold cJ.f endR
  by_cases h0:e0=0
  · subst h0
    rw[if_pos rfl]
    by_cases h1:a < s.size
    · rw[if_pos h1,if_pos ⟨rfl,h1⟩]
    rw[if_neg h1,if_neg (fun x=>h1 x.2)]
  rw[if_neg h0,if_neg (fun x=>h0 x.1)]
theorem why_f (a e:Int):cY.f (flt a e)=some (e,if e=0 then 0 else a):=by
  unfold cY.f
  by_cases h:e=0
  · subst h;rfl
  rw[flt1 h,if_neg h];rfl
theorem err_f (s:ByteArray) (a:Int) (f:Option (Int × Int)):cH.f s a f true=some (f,s,a,f,true):=rfl
def textR (s:ByteArray) (a e0 m:Int):ByteArray × Int × Int:=pc ⟨#[]⟩ a e0 (takeS s a m)
theorem takeS_bad {s:ByteArray} {a m:Int} (h:(takeS s a m).2.2≠0):(takeS s a m).1=⟨#[]⟩:=by
  unfold takeS at h⊢
  (repeat' split at h) <;> first|rfl|exact absurd rfl h|skip
  all_goals (repeat' split) <;> first|rfl|simp_all
theorem text_f {s:ByteArray} (a e0 m:Int) (hs:s.size≤4611686018427387904):Ev (fun k=>bO.f k s a (flt a e0) true m) ((textR s a e0 m).1,s,(textR s a e0 m).2.1,flt (textR s a e0 m).2.1 (textR s a e0 m).2.2,true):=by
  unfold bO.f textR
  by_cases h0:e0=0
  · subst h0
    rw[flt0]
    refine Ev.bindc (goes0 s a) (Ev.pos rfl (Ev.bind (octet_take_f (s:=s) a m hs) ?_))
    by_cases h1:(takeS s a m).2.2=0
    · rw[pc_ok h1,h1]
      exact Ev.bindc (done0 s a _) (Ev.pos rfl (Ev.ok rfl))
    rw[pc_err h1]
    refine Ev.bindc (done1 s a _ h1) (Ev.neg Bool.false_ne_true (Ev.ok ?_))
    rw[flt1 h1]
  rw[flt1 h0,pc_bad h0]
  refine Ev.bindc (goes1 s a _) (Ev.neg Bool.false_ne_true (Ev.ok ?_))
  rw[flt1 h0]
theorem rtext_f {s:ByteArray} (a e0 m:Int) (hs:s.size≤4611686018427387904):Ev (fun k=>bX.f k s a e0 m) (s,(textR s a e0 m).2.1,(textR s a e0 m).2.2,(textR s a e0 m).1):=by
  unfold bX.f textR
  by_cases h0:e0=0
  · subst h0
    refine Ev.pos rfl (Ev.bind (ref05_take_f (s:=s) a m hs) ?_)
    by_cases h1:(takeS s a m).2.2=0
    · rw[pc_ok h1,h1]
      exact Ev.bindc (moved0 s a _) (Ev.ok rfl)
    rw[pc_err h1,takeS_bad h1]
    exact Ev.bindc (moved1 s a _ h1) (Ev.ok rfl)
  rw[pc_bad h0]
  exact Ev.neg h0 (Ev.ok rfl)
def rowB (r:RwT):ByteArray:=bytesB (beL 4 r.f0.toNat)++(bytesB (beL 2 r.f1.size)++r.f1)
def rowsB:List RwT→ByteArray
  | [] => ⟨#[]⟩
  |r::l=>rowB r++rowsB l
def tabsB:List (List RwT)→ByteArray
  | [] => ⟨#[]⟩
  |l::s=>bytesB (beL 1 l.length)++rowsB l++tabsB s
def putB (s:List (List RwT)):ByteArray:=bytesB (beL 1 s.length)++tabsB s
theorem app_nil (a:ByteArray):a++(⟨#[]⟩:ByteArray)=a:=by
  apply ext_list
  rw[data_append]
  exact List.append_nil _
def takeRows (s:ByteArray):Nat→Int→Int→List RwT × Int × Int
  |0,a,e=> ([],a,e)
  |n+1,a,e=>
    let p:=numR s a e 4 999999
    let q:=textR s p.2.1 p.2.2 200
    let r:=takeRows s n q.2.1 q.2.2
    (⟨p.1,q.1⟩::r.1,r.2)
def takeTabs (s:ByteArray):Nat→Int→Int→List (List RwT) × Int × Int
  |0,a,e=> ([],a,e)
  |n+1,a,e=>
    let p:=numR s a e 1 60
    let q:=takeRows s p.1.toNat p.2.1 p.2.2
    let r:=takeTabs s n q.2.1 q.2.2
    (q.1::r.1,r.2)
def takeB (s:ByteArray):List (List RwT) × Int:=
  let p:=numR s 0 0 1 8
  let q:=takeTabs s p.1.toNat p.2.1 p.2.2
  let e:=endR s q.2.1 q.2.2
  if e=0 then(if chkS q.1=0 then(q.1,0)else([],chkS q.1))else([],e)
theorem num_ok {s:ByteArray} {a w m n t:Int} (h:numR s a 0 w m=(n,t,0)):getS s a w=(n,t,0)∧n≤m:=by
  unfold numR at h
  by_cases c:(bigR (getS s a w) m).2.2=0
  · rw[pc_ok c] at h
    unfold bigR at h
    by_cases c2:(getS s a w).2.2=0∧(getS s a w).1 > m
    · rw[if_pos c2] at h;simp at h
    rw[if_neg c2] at h
    rw[h] at c2⊢
    simp at c2
    exact⟨rfl,c2⟩
  rw[pc_err c] at h
  simp only[Prod.mk.injEq] at h
  exact(c h.2.2).elim
theorem num_bad (s:ByteArray) (a:Int) {e:Int} (w m:Int) (h:e≠0):numR s a e w m=(0,a,e):=by
  unfold numR
  exact pc_bad h
theorem text_bad (s:ByteArray) (a:Int) {e:Int} (m:Int) (h:e≠0):textR s a e m=(⟨#[]⟩,a,e):=by
  unfold textR
  exact pc_bad h
theorem rows_bad (s:ByteArray): ∀ (n:Nat) (a:Int) {e:Int},e≠0→(takeRows s n a e).2=(a,e)
  |0,a,e,_=>rfl
  |n+1,a,e,h=>by
    simp only[takeRows,num_bad s a 4 999999 h,text_bad s a 200 h]
    exact rows_bad s n a h
theorem tabs_bad (s:ByteArray): ∀ (n:Nat) (a:Int) {e:Int},e≠0→(takeTabs s n a e).2=(a,e)
  |0,a,e,_=>rfl
  |n+1,a,e,h=>by
    simp only[takeTabs,num_bad s a 1 60 h,rows_bad s _ a h]
    exact tabs_bad s n a h
theorem put4 {n:Int} (h:1≤n∧n≤999999):putS n 4=(bytesB (beL 4 n.toNat),0):=by
  unfold putS
  rw[if_pos (by decide),if_pos ⟨by omega,by show n < 256 ^ 4;omega⟩];rfl
theorem lay_B {t:ByteArray} (h:t.size≤200):layS t=(bytesB (beL 2 t.size)++t,0):=by
  unfold layS
  rw[if_neg (by omega)]
theorem getS_bytes {s:ByteArray} {a w n t:Int} (h:getS s a w=(n,t,0)):bytesB (beL w.toNat n.toNat)=s.extract a.toNat t.toNat∧0≤a∧a≤t∧t≤s.size∧0≤n:=by
  obtain⟨hw,ha,hs,rfl,rfl,hn,h0⟩:=getS_ok h
  have hw':=wide_nat hw
  have:=put_of_get h
  obtain⟨_,_,_,hb⟩:=putS_ok this
  exact⟨hb.symm,ha,by omega,by omega,h0⟩
abbrev RoT:=S173
theorem rdC {l:List CeT} {i:Nat} (h:i < l.length):rd_T169 l (i:Int)=l[i] :=by
  unfold rd_T169;simp[h]
theorem cells_len: ∀ (s:List (List RwT)) (i:Int),(∀ l ∈ s,l.length≤1000)→(cellsF i s).length≤1000 * s.length
  | [],i,_=>by simp[cellsF]
  |l::s,i,h=>by
    have h1:=h l List.mem_cons_self
    have h2:=cells_len s (i+1) fun x hx=>h x (List.mem_cons_of_mem _ hx)
    simp only[cellsF,List.length_append,List.length_map,List.length_cons]
    omega
theorem small_cells {s:List (List RwT)} (h:smallS s):(cellsF 0 s).length≤100000:=by
  have:=cells_len s 0 h.2
  have:=h.1
  omega
def rowC (i:Int) (r:RwT):CeT:=⟨i,r.f0,r.f1⟩
theorem of_l1 {s:List (List RwT)} (h:smallS s) {i:Nat} (hi:i < s.length) {R:Int × List CeT} {F:List CeT} (hR:Ev (fun k=>aI.l0 k ((i+1:Nat):Int) s (s.length:Int) F) R) (d:Nat): ∀ (j:Nat) (acc:List CeT),s[i].length - j=d→j≤s[i].length→acc.length≤1000000+j→acc++(s[i].drop j).map (rowC (i:Int))=F→Ev (fun k=>aI.l1 k (i:Int) (j:Int) s (s.length:Int) acc) R:=by
  have h1:=h.1
  have hl:=h.2 _ (List.getElem_mem hi)
  induction d with
  |zero=>
    intro j acc hd hj ha hF
    refine Ev.step (fun k=>by simp only[aI.l1];rfl) (Ev.pos (by omega) (Ev.pos (by omega) ?_))
    rw[rdS hi]
    refine Ev.neg (by omega) ?_
    rw[wrap_eq (by omega) (by omega)]
    rw[List.drop_eq_nil_of_le (by omega),List.map_nil,List.append_nil] at hF
    rw[hF]
    exact hR
  |succ d ih=>
    intro j acc hd hj ha hF
    have hj2:j < s[i].length:=by omega
    refine Ev.step (fun k=>by simp only[aI.l1];rfl) (Ev.pos (by omega) (Ev.pos (by omega) ?_))
    rw[rdS hi]
    refine Ev.pos (by omega) (Ev.pos (by omega) (Ev.pos (by omega) ?_))
    rw[rdR hj2,wrap_eq (x:=(j:Int)+1) (by omega) (by omega)]
    refine ih (j+1) _ (by omega) (by omega) (by simp;omega) ?_
    rw[←hF,drop_cons hj2,List.map_cons,List.append_assoc,List.singleton_append]
    rfl
theorem of_l0 {s:List (List RwT)} (h:smallS s) (d:Nat): ∀ (i:Nat) (acc:List CeT),s.length - i=d→i≤s.length→acc.length≤1000 * i→Ev (fun k=>aI.l0 k (i:Int) s (s.length:Int) acc) ((s.length:Int),acc++cellsF (i:Int) (s.drop i)):=by
  have h1:=h.1
  induction d with
  |zero=>
    intro i acc hd hi ha
    refine Ev.step (fun k=>by simp only[aI.l0];rfl) (Ev.neg (by omega) (Ev.ok ?_))
    rw[List.drop_eq_nil_of_le (by omega)]
    simp[cellsF]
  |succ d ih=>
    intro i acc hd hi ha
    have hi2:i < s.length:=by omega
    have hl:=h.2 _ (List.getElem_mem hi2)
    refine Ev.step (fun k=>by simp only[aI.l0];rfl) (Ev.pos (by omega) ?_)
    refine of_l1 h hi2 (F:=acc++s[i].map (rowC (i:Int))) ?_ s[i].length 0 acc (by omega) (by omega) (by omega) (by rw[List.drop_zero])
    have:=ih (i+1) (acc++s[i].map (rowC (i:Int))) (by omega) (by omega) (by simp;omega)
    rw[drop_cons hi2]
    simp only[cellsF]
    rw[List.append_assoc] at this
    exact this
theorem of_f {s:List (List RwT)} (h:smallS s):Ev (fun k=>aI.f k s) ((s.length:Int),cellsF 0 s):=by
  unfold aI.f
  have:=of_l0 h s.length 0 [] (by omega) (by omega) (by simp)
  simpa using this
def fewB (s:List (List RwT)):Bool:=decide (s.length≤12)&&s.all fun l=>decide (l.length≤70)&&l.all fun r=>decide (r.f1.size≤300)
theorem few_l1 {s:List (List RwT)} (h:s.length≤12) {i:Nat} (hi:i < s.length) (hl:s[i].length≤70) {R:Bool} (hR:Ev (fun k=>aN.l0 k ((i+1:Nat):Int) s) R) (d:Nat): ∀ j:Nat,s[i].length - j=d→j≤s[i].length→Ev (fun k=>aN.l1 k (i:Int) (j:Int) s) (((s[i].drop j).all fun r=>decide (r.f1.size≤300))&&R):=by
  induction d with
  |zero=>
    intro j hd hj
    refine Ev.step (fun k=>by simp only[aN.l1];rfl) (Ev.pos (by omega) (Ev.pos (by omega) ?_))
    rw[rdS hi]
    refine Ev.neg (by omega) ?_
    rw[wrap_eq (by omega) (by omega),List.drop_eq_nil_of_le (by omega),List.all_nil,Bool.true_and]
    exact hR
  |succ d ih=>
    intro j hd hj
    have hj2:j < s[i].length:=by omega
    refine Ev.step (fun k=>by simp only[aN.l1];rfl) (Ev.pos (by omega) (Ev.pos (by omega) ?_))
    rw[rdS hi]
    refine Ev.pos (by omega) (Ev.pos (by omega) ?_)
    rw[rdR hj2,wrap_eq (x:=(j:Int)+1) (by omega) (by omega),drop_cons hj2,List.all_cons]
    refine Q.Ev.ite (fun c=>Ev.ok ?_) (fun c=>?_)
    · rw[decide_eq_false (by omega),Bool.false_and,Bool.false_and]
    rw[decide_eq_true (by omega),Bool.true_and]
    exact ih (j+1) (by omega) (by omega)
theorem few_l0 {s:List (List RwT)} (h:s.length≤12) (d:Nat): ∀ i:Nat,s.length - i=d→i≤s.length→Ev (fun k=>aN.l0 k (i:Int) s) ((s.drop i).all fun l=>decide (l.length≤70)&&l.all fun r=>decide (r.f1.size≤300)):=by
  induction d with
  |zero=>
    intro i hd hi
    refine Ev.step (fun k=>by simp only[aN.l0];rfl) (Ev.neg (by omega) (Ev.ok ?_))
    rw[List.drop_eq_nil_of_le (by omega)]
    rfl
  |succ d ih=>
    intro i hd hi
    have hi2:i < s.length:=by omega
    refine Ev.step (fun k=>by simp only[aN.l0];rfl) (Ev.pos (by omega) (Ev.pos (by omega) ?_))
    rw[rdS hi2,drop_cons hi2,List.all_cons]
    refine Q.Ev.ite (fun c=>Ev.ok ?_) (fun c=>?_)
    · rw[decide_eq_false (by omega),Bool.false_and,Bool.false_and]
    rw[decide_eq_true (by omega),Bool.true_and]
    have:=few_l1 h hi2 (by omega) (ih (i+1) (by omega) (by omega)) s[i].length 0 (by omega) (by omega)
    rw[List.drop_zero] at this
    exact this
theorem few_f (s:List (List RwT)):Ev (fun k=>aN.f k s) (fewB s):=by
  unfold aN.f fewB
  refine Q.Ev.ite (fun c=>Ev.ok ?_) (fun c=>?_)
  · rw[decide_eq_false (by omega),Bool.false_and]
  rw[decide_eq_true (by omega),Bool.true_and]
  have:=few_l0 (s:=s) (by omega) s.length 0 (by omega) (by omega)
  rw[List.drop_zero] at this
  exact this
theorem few_small {s:List (List RwT)} (h:fewB s=true):smallS s:=by
  unfold fewB at h
  rw[Bool.and_eq_true,decide_eq_true_iff,List.all_eq_true] at h
  refine⟨by omega,fun l hl=>?_⟩
  have:=h.2 l hl
  rw[Bool.and_eq_true,decide_eq_true_iff] at this
  omega
def toU (o:OpX):RoT:=⟨o.tb,o.k,o.id,o.tx⟩
theorem ops_l0 {l:List BoT} (h:l.length≤1000000) (d:Nat): ∀ (i:Nat) (acc:List RoT),l.length - i=d→i≤l.length→acc.length≤i→Ev (fun k=>aY.l0 k l acc (i:Int)) (acc++(l.drop i).map fun o=>toU (opX o)):=by
  induction d with
  |zero=>
    intro i acc hd hi ha
    refine Ev.step (fun k=>by simp only[aY.l0];rfl) (Ev.neg (by omega) (Ev.ok ?_))
    rw[List.drop_eq_nil_of_le (by omega)]
    simp
  |succ d ih=>
    intro i acc hd hi ha
    have hi2:i < l.length:=by omega
    refine Ev.step (fun k=>by simp only[aY.l0];rfl) (Ev.pos (by omega) (Ev.pos (by omega) (Ev.pos (by omega) ?_)))
    rw[rdO hi2,drop_cons hi2,wrap_eq (x:=(i:Int)+1) (by omega) (by omega)]
    have:=ih (i+1) (acc++ [toU (opX l[i])]) (by omega) (by omega) (by simp;omega)
    simp only[List.append_assoc,List.singleton_append] at this
    exact this
theorem ops_f {l:List BoT} (h:l.length≤1000000):Ev (fun k=>aY.f k l) (l.map fun o=>toU (opX o)):=by
  unfold aY.f
  have:=ops_l0 h l.length 0 [] (by omega) (by omega) (by simp)
  simpa using this
theorem same_ops_l0 {l:List RoT} (h:l.length≤1000000) (d:Nat): ∀ i:Nat,l.length - i=d→i≤l.length→Ev (fun k=>bA.l0 k l l (i:Int)) true:=by
  induction d with
  |zero=>
    intro i hd hi
    exact Ev.step (fun k=>by simp only[bA.l0];rfl) (Ev.neg (by omega) (Ev.ok rfl))
  |succ d ih=>
    intro i hd hi
    refine Ev.step (fun k=>by simp only[bA.l0];rfl) (Ev.pos (by omega) (Ev.pos (by omega) (Ev.pos (by omega) (Ev.neg (by simp) ?_))))
    rw[wrap_eq (x:=(i:Int)+1) (by omega) (by omega)]
    exact ih (i+1) (by omega) (by omega)
theorem same_ops_f {l m:List RoT} (h:l.length≤1000000) (e:l=m):Ev (fun k=>bA.f k l m) true:=by
  subst e
  unfold bA.f
  exact Ev.pos rfl (same_ops_l0 h l.length 0 (by omega) (by omega))
theorem same_l0 {n:Int} {c:List CeT} (h:c.length≤1000000) (d:Nat): ∀ i:Nat,c.length - i=d→i≤c.length→Ev (fun k=>aV.l0 k (i:Int) n c n c) true:=by
  induction d with
  |zero=>
    intro i hd hi
    exact Ev.step (fun k=>by simp only[aV.l0];rfl) (Ev.neg (by omega) (Ev.ok rfl))
  |succ d ih=>
    intro i hd hi
    refine Ev.step (fun k=>by simp only[aV.l0];rfl) (Ev.pos (by omega) (Ev.pos (by omega) (Ev.pos (by omega) (Ev.neg (by simp) ?_))))
    rw[wrap_eq (x:=(i:Int)+1) (by omega) (by omega)]
    exact ih (i+1) (by omega) (by omega)
theorem same_f {s:List (List RwT)} (h:smallS s) {n:Int} {c:List CeT} (e1:n=s.length) (e2:c=cellsF 0 s):Ev (fun k=>bU.f k s n c) true:=by
  subst e1 e2
  unfold bU.f
  refine Ev.bind (of_f h) (Ev.bind (r:=true) (a:=true) ?_ (Ev.ok rfl))
  unfold aV.f
  refine Ev.pos rfl (Ev.step (fun k=>by simp only[aV.j0];rfl) (Ev.neg (by simp) ?_))
  exact same_l0 (by have:=small_cells h;omega) _ 0 rfl (Nat.zero_le _)
def atC (t id:Int):Nat→List CeT→Int
  |_,[] => -1
  |i,c::l=>if c.f0=t∧c.f1=id then(i:Int)else atC t id (i+1) l
theorem at_l0 {n t id:Int} {c:List CeT} (h:c.length≤1000000) (d:Nat): ∀ i:Nat,c.length - i=d→i≤c.length→Ev (fun k=>bB.l0 k t id (i:Int) n c) (atC t id i (c.drop i)):=by
  induction d with
  |zero=>
    intro i hd hi
    refine Ev.step (fun k=>by simp only[bB.l0];rfl) (Ev.neg (by omega) (Ev.ok ?_))
    rw[List.drop_eq_nil_of_le (by omega)]
    rfl
  |succ d ih=>
    intro i hd hi
    have hi2:i < c.length:=by omega
    refine Ev.step (fun k=>by simp only[bB.l0];rfl) (Ev.pos (by omega) (Ev.pos (by omega) ?_))
    rw[rdC hi2,drop_cons hi2,wrap_eq (x:=(i:Int)+1) (by omega) (by omega)]
    simp only[atC]
    refine Q.Ev.ite (fun c1=>Q.Ev.ite (fun c2=>Ev.ok (by rw[if_pos ⟨c1,c2⟩])) (fun c2=>?_)) (fun c1=>?_)
    · rw[if_neg fun q=>c2 q.2]
      exact ih (i+1) (by omega) (by omega)
    rw[if_neg fun q=>c1 q.1]
    exact ih (i+1) (by omega) (by omega)
theorem at_f {n:Int} {c:List CeT} (t id:Int) (h:c.length≤1000000):Ev (fun k=>bB.f k n c t id) (atC t id 0 c):=by
  unfold bB.f
  have:=at_l0 (n:=n) (t:=t) (id:=id) h c.length 0 (by omega) (by omega)
  rw[List.drop_zero] at this
  exact this
theorem atC_spec {t id:Int} : ∀ (c:List CeT) (i:Nat),(atC t id i c= -1∧∀ x ∈ c,¬ (x.f0=t∧x.f1=id))∨∃ (j:Nat) (h:j < c.length),atC t id i c=((i+j:Nat):Int)∧c[j].f0=t∧c[j].f1=id
  | [],i=> .inl ⟨rfl,by simp⟩
  |x::c,i=>by
    simp only[atC]
    by_cases g:x.f0=t∧x.f1=id
    · rw[if_pos g]
      exact .inr ⟨0,by simp,rfl,g⟩
    rw[if_neg g]
    rcases atC_spec c (i+1)with⟨h1,h2⟩|⟨j,hj,h1,h2⟩
    · refine .inl ⟨h1,fun y hy=>?_⟩
      rcases List.mem_cons.1 hy with rfl|hy
      · exact g
      exact h2 y hy
    exact .inr ⟨j+1,by simp;omega,by rw[h1,show i+(j+1)=i+1+j by omega],by simpa using h2⟩
theorem mem_table {s:List (List RwT)} {n:Nat} (hn:n < s.length) {id:Int} :id ∈ idsT s[n] ↔ ∃ x ∈ cellsF 0 s,x.f0=(n:Int)∧x.f1=id:=by
  rw[mem_ids]
  constructor
  · rintro⟨r,hr,rfl⟩
    exact⟨⟨(n:Int),r.f0,r.f1⟩,(mem_cells s 0).2 ⟨n,hn,by simp only;omega,hr⟩,rfl,rfl⟩
  rintro⟨x,hx,h1,h2⟩
  obtain⟨j,hj,h3,h4⟩:=(mem_cells s 0).1 hx
  have:j=n:=by omega
  subst this
  exact⟨_,h4,h2⟩
theorem at_cells {s:List (List RwT)} {n:Nat} (hn:n < s.length) (hs:sortT s[n]) (id:Int):(atC (n:Int) id 0 (cellsF 0 s)= -1∧id ∉ idsT s[n])∨∃ (j:Nat) (h:j < (cellsF 0 s).length),atC (n:Int) id 0 (cellsF 0 s)=(j:Int)∧id ∈ idsT s[n]∧(cellsF 0 s)[j].f2=textT s[n] id:=by
  rcases atC_spec (t:=(n:Int)) (id:=id) (cellsF 0 s) 0 with⟨h1,h2⟩|⟨j,hj,h1,h2,h3⟩
  · refine .inl ⟨h1,fun q=>?_⟩
    obtain⟨x,hx,g⟩:=(mem_table hn).1 q
    exact h2 x hx g
  have hm:=List.getElem_mem hj
  refine .inr ⟨j,hj,by rw[h1,Nat.zero_add],(mem_table hn).2 ⟨_,hm,h2,h3⟩,?_⟩
  obtain⟨i,hi,h4,h5⟩:=(mem_cells s 0).1 hm
  have:i=n:=by omega
  subst this
  have:=text_in hs h5
  rw[h3] at this
  exact this.symm
def manyC (t:Int) (c:List CeT):Nat:=c.countP fun x=>decide (x.f0=t)
theorem many_l0 {n t:Int} {c:List CeT} (h:c.length≤1000000) (d:Nat): ∀ i m:Nat,c.length - i=d→i≤c.length→m≤i→Ev (fun k=>aT.l0 k t (m:Int) (i:Int) n c) ((m+manyC t (c.drop i):Nat):Int):=by
  induction d with
  |zero=>
    intro i m hd hi hm
    refine Ev.step (fun k=>by simp only[aT.l0];rfl) (Ev.neg (by omega) (Ev.ok ?_))
    rw[List.drop_eq_nil_of_le (by omega)]
    simp[manyC]
  |succ d ih=>
    intro i m hd hi hm
    have hi2:i < c.length:=by omega
    refine Ev.step (fun k=>by simp only[aT.l0];rfl) (Ev.pos (by omega) (Ev.pos (by omega) ?_))
    rw[rdC hi2,drop_cons hi2,wrap_eq (x:=(i:Int)+1) (by omega) (by omega),wrap_eq (x:=(m:Int)+1) (by omega) (by omega)]
    have e:manyC t (c[i] ::c.drop (i+1))=manyC t (c.drop (i+1))+if c[i].f0=t then 1 else 0:=by
      unfold manyC
      rw[List.countP_cons]
      simp
    rw[e]
    refine Q.Ev.ite (fun c1=>?_) (fun c1=>?_)
    · rw[if_pos c1]
      have:=ih (i+1) (m+1) (by omega) (by omega) (by omega)
      rw[show m+1+manyC t (c.drop (i+1))=m+(manyC t (c.drop (i+1))+1) by omega] at this
      exact this
    rw[if_neg c1]
    exact ih (i+1) m (by omega) (by omega) (by omega)
theorem many_f {n:Int} {c:List CeT} (t:Int) (h:c.length≤1000000):Ev (fun k=>aT.f k n c t) (manyC t c:Int):=by
  unfold aT.f
  have:=many_l0 (n:=n) (t:=t) h c.length 0 0 (by omega) (by omega) (by omega)
  rw[List.drop_zero,Nat.zero_add] at this
  exact this
theorem many_not {t:Int} {c:List CeT} (h: ∀ x ∈ c,x.f0≠t):manyC t c=0:=by
  unfold manyC
  rw[List.countP_eq_zero]
  intro x hx
  simp[h x hx]
theorem many_cells: ∀ (s:List (List RwT)) (i:Int) (n:Nat) (hn:n < s.length),manyC (i+n) (cellsF i s)=s[n].length
  | [],i,n,hn=>by simp at hn
  |l::s,i,n,hn=>by
    simp only[cellsF]
    have e: ∀ t a b,manyC t (a++b)=manyC t a+manyC t b:=fun t a b=>by unfold manyC;rw[List.countP_append]
    rw[e]
    cases n with
    |zero=>
      have e1:manyC (i+(0:Nat)) (l.map fun r=> (⟨i,r.f0,r.f1⟩:CeT))=l.length:=by
        unfold manyC
        rw[List.countP_map]
        have:(fun x:RwT=>true)=((fun x:CeT=>decide (x.f0=i+(0:Nat))) ∘ fun r:RwT=> (⟨i,r.f0,r.f1⟩:CeT)):=by
          funext r
          simp
        rw[←this]
        simp
      have e2:manyC (i+(0:Nat)) (cellsF (i+1) s)=0:=many_not fun x hx=>by
        obtain⟨j,_,h,_⟩:=(mem_cells s (i+1)).1 hx
        omega
      rw[e1,e2]
      rfl
    |succ n=>
      have e1:manyC (i+(n+1:Nat)) (l.map fun r=> (⟨i,r.f0,r.f1⟩:CeT))=0:=many_not fun x hx=>by
        obtain⟨r,_,rfl⟩:=List.mem_map.1 hx
        simp only
        omega
      have e2:=many_cells s (i+1) n (by simpa using hn)
      rw[e1,show i+((n+1:Nat):Int)=i+1+(n:Nat) by omega,e2]
      simp
def goodP (p:Option CeT) (c:CeT):Prop:=(1≤c.f1∧c.f1≤999999)∧c.f2.size≤200∧(match p with|none=>True|some q=>q.f0=c.f0→q.f1 < c.f1)
def goodC:Option CeT→List CeT→Prop
  |_,[] =>True
  |p,c::l=>goodP p c∧goodC (some c) l
def lastC (p:Option CeT) (i:Int):Int:=match p with|none=>0|some q=>if q.f0=i then q.f1 else 0
theorem good_rows {i:Int} {R:List CeT} : ∀ (l:List RwT) (p:Option CeT),goodC p (l.map (fun r=> (⟨i,r.f0,r.f1⟩:CeT))++R)↔(rising (lastC p i) (idsT l)=0∧∀ r ∈ l,r.f1.size≤200)∧goodC (match l.getLast? with|none=>p|some r=>some ⟨i,r.f0,r.f1⟩) R
  | [],p=>by simp[idsT,rising]
  |x::l,p=>by
    simp only[List.map_cons,List.cons_append,goodC]
    rw[good_rows l]
    have e0:lastC (some (⟨i,x.f0,x.f1⟩:CeT)) i=x.f0:=by simp[lastC]
    have e1:(match l.getLast? with|none=>some (⟨i,x.f0,x.f1⟩:CeT)|some r=>some ⟨i,r.f0,r.f1⟩)=(match (x::l).getLast? with|none=>p|some r=>some ⟨i,r.f0,r.f1⟩):=by
      cases l with
      |nil=>rfl
      |cons y l=>rw[List.getLast?_cons_cons];cases h:(y::l).getLast? with
        |none=>simp at h
        |some r=>rfl
    rw[e0,e1]
    have e2:rising (lastC p i) (idsT (x::l))=0↔(1≤x.f0∧x.f0≤999999)∧lastC p i < x.f0∧rising x.f0 (idsT l)=0:=by
      simp only[idsT,List.map_cons,rising]
      by_cases c1:x.f0 < 1∨x.f0 > 999999
      · rw[if_pos c1];omega
      rw[if_neg c1]
      by_cases c2:x.f0≤lastC p i
      · rw[if_pos c2];omega
      rw[if_neg c2]
      exact⟨fun h=> ⟨by omega,by omega,h⟩,fun h=>h.2.2⟩
    have e3:goodP p ⟨i,x.f0,x.f1⟩↔(1≤x.f0∧x.f0≤999999)∧x.f1.size≤200∧lastC p i < x.f0:=by
      cases p with
      |none=>
        have e9:lastC none i=0:=rfl
        rw[e9]
        unfold goodP
        exact⟨fun h=> ⟨h.1,h.2.1,by have h1:1≤x.f0:=h.1.1;omega⟩,fun h=> ⟨h.1,h.2.1,trivial⟩⟩
      |some q=>
        unfold goodP lastC
        simp only
        by_cases c:q.f0=i
        · rw[if_pos c]
          exact⟨fun h=> ⟨h.1,h.2.1,h.2.2 c⟩,fun h=> ⟨h.1,h.2.1,fun _=>h.2.2⟩⟩
        rw[if_neg c]
        exact⟨fun h=> ⟨h.1,h.2.1,by omega⟩,fun h=> ⟨h.1,h.2.1,fun q=> (c q).elim⟩⟩
    rw[e2,e3]
    constructor
    · rintro⟨⟨h1,h2,h3⟩,⟨h4,h5⟩,h6⟩
      refine⟨⟨⟨h1,h3,h4⟩,fun r hr=>?_⟩,h6⟩
      rcases List.mem_cons.1 hr with rfl|hr
      · exact h2
      exact h5 r hr
    rintro⟨⟨⟨h1,h3,h4⟩,h5⟩,h6⟩
    exact⟨⟨h1,h5 x List.mem_cons_self,h3⟩,⟨h4,fun r hr=>h5 r (List.mem_cons_of_mem _ hr)⟩,h6⟩
theorem good_cells: ∀ (s:List (List RwT)) (i:Int) (p:Option CeT),(∀ q,p=some q→q.f0 < i)→(goodC p (cellsF i s)↔ ∀ l ∈ s,rising 0 (idsT l)=0∧∀ r ∈ l,r.f1.size≤200)
  | [],i,p,_=>by simp[cellsF,goodC]
  |l::s,i,p,hp=>by
    simp only[cellsF]
    rw[good_rows l,good_cells s (i+1)]
    · have e:lastC p i=0:=by
        unfold lastC
        cases p with
        |none=>rfl
        |some q=>have:=hp q rfl;simp only;rw[if_neg (by omega)]
      rw[e]
      constructor
      · rintro⟨h1,h2⟩ x hx
        rcases List.mem_cons.1 hx with rfl|hx
        · exact h1
        exact h2 x hx
      intro h
      exact⟨h l List.mem_cons_self,fun x hx=>h x (List.mem_cons_of_mem _ hx)⟩
    intro q hq
    cases h:l.getLast? with
    |none=>
      rw[h] at hq
      have:=hp q hq
      omega
    |some r=>
      rw[h] at hq
      simp only[Option.some.injEq] at hq
      rw[←hq]
      simp only
      omega
instance (p:Option CeT) (c:CeT):Decidable (goodP p c):=by unfold goodP;cases p <;> infer_instance
instance decGood: ∀ (p:Option CeT) (c:List CeT),Decidable (goodC p c)
  |_,[] => .isTrue trivial
  |p,c::l=>match (inferInstance:Decidable (goodP p c)),decGood (some c) l with
    | .isTrue h,.isTrue g=> .isTrue ⟨h,g⟩
    | .isFalse h,_=> .isFalse fun q=>h q.1
    |_,.isFalse h=> .isFalse fun q=>h q.2
def prevC (c:List CeT) (i:Nat):Option CeT:=if i=0 then none else c[i - 1]?
theorem rcheck_l1 {n:Int} {c:List CeT} (h:c.length≤1000000) (d:Nat): ∀ i:Nat,c.length - i=d→i≤c.length→Ev (fun k=>aE.l1 k (i:Int) n c) (if goodC (prevC c i) (c.drop i)then 0 else 40):=by
  induction d with
  |zero=>
    intro i hd hi
    refine Ev.step (fun k=>by simp only[aE.l1];rfl) (Ev.neg (by omega) (Ev.ok ?_))
    rw[List.drop_eq_nil_of_le (by omega)]
    rfl
  |succ d ih=>
    intro i hd hi
    have hi2:i < c.length:=by omega
    refine Ev.step (fun k=>by simp only[aE.l1];rfl) (Ev.pos (by omega) (Ev.pos (by omega) ?_))
    rw[rdC hi2,drop_cons hi2,wrap_eq (x:=(i:Int)+1) (by omega) (by omega)]
    have bad: ¬ goodP (prevC c i) c[i]→(40:Int)=if goodC (prevC c i) (c[i] ::c.drop (i+1))then 0 else 40:=fun q=> (if_neg fun w=>q w.1).symm
    have go:goodP (prevC c i) c[i]→Ev (fun k=>aE.l1 k (((i+1:Nat)):Int) n c) (if goodC (prevC c i) (c[i] ::c.drop (i+1))then 0 else 40):=fun q=>by
      have e:(if goodC (prevC c i) (c[i] ::c.drop (i+1))then(0:Int)else 40)=if goodC (some c[i]) (c.drop (i+1))then 0 else 40:=by
        by_cases w:goodC (some c[i]) (c.drop (i+1))
        · rw[if_pos (show goodC (prevC c i) (c[i] ::c.drop (i+1))from⟨q,w⟩),if_pos w]
        rw[if_neg (show ¬ goodC (prevC c i) (c[i] ::c.drop (i+1))from fun z=>w z.2),if_neg w]
      have e2:prevC c (i+1)=some c[i] :=by unfold prevC;simp[hi2]
      have:=ih (i+1) (by omega) (by omega)
      rw[e2] at this
      rw[e]
      exact this
    refine Q.Ev.ite (fun c1=>Ev.ok (bad fun q=>by have:=q.1;omega)) (fun c1=>Q.Ev.ite (fun c2=>Ev.ok (bad fun q=>by have:=q.1;omega)) (fun c2=>Q.Ev.ite (fun c3=>Ev.ok (bad fun q=>by have:=q.2.1;omega)) (fun c3=>Q.Ev.ite (fun c4=>?_) (fun c4=>go ?_))))
    · have hp:i - 1 < c.length:=by omega
      have ew:wrap64 ((i:Int) - 1)=((i - 1:Nat):Int):=by rw[wrap_eq (by omega) (by omega)];omega
      have ep:prevC c i=some c[i - 1] :=by unfold prevC;rw[if_neg (by omega)];simp[hp]
      rw[ew]
      refine Ev.pos (by omega) (Ev.pos (by omega) ?_)
      rw[rdC hp]
      refine Q.Ev.ite (fun c5=>Q.Ev.ite (fun c6=>Ev.ok (bad fun q=>?_)) (fun c6=>go ?_)) (fun c5=>go ?_)
      · rw[ep] at q
        have:=q.2.2 c5
        omega
      · rw[ep]
        exact⟨by omega,by omega,fun _=>by omega⟩
      rw[ep]
      exact⟨by omega,by omega,fun q=> (c5 q).elim⟩
    have:i=0:=by omega
    unfold prevC
    rw[if_pos this]
    exact⟨by omega,by omega,trivial⟩
theorem rcheck_l0 {s:List (List RwT)} (h:smallS s) {R:Int} (hR:(∀ l ∈ s,l.length≤60)→Ev (fun k=>aE.l1 k 0 (s.length:Int) (cellsF 0 s)) R) (h40:(¬ ∀ l ∈ s,l.length≤60)→R=40) (d:Nat): ∀ i:Nat,s.length - i=d→i≤s.length→(∀ l ∈ s.take i,l.length≤60)→Ev (fun k=>aE.l0 k (i:Int) (s.length:Int) (cellsF 0 s)) R:=by
  have h1:=h.1
  have hc:=small_cells h
  induction d with
  |zero=>
    intro i hd hi hq
    refine Ev.step (fun k=>by simp only[aE.l0];rfl) (Ev.neg (by omega) (hR ?_))
    rwa [List.take_of_length_le (by omega)] at hq
  |succ d ih=>
    intro i hd hi hq
    have hi2:i < s.length:=by omega
    refine Ev.step (fun k=>by simp only[aE.l0];rfl) (Ev.pos (by omega) (Ev.bind (many_f (i:Int) (by omega)) ?_))
    have em:=many_cells s 0 i hi2
    rw[Int.zero_add] at em
    rw[em,wrap_eq (x:=(i:Int)+1) (by omega) (by omega)]
    refine Q.Ev.ite (fun c=>Ev.ok (h40 fun q=>?_).symm) (fun c=>ih (i+1) (by omega) (by omega) fun l hl=>?_)
    · have:=q _ (List.getElem_mem hi2)
      omega
    rw[List.take_succ_eq_append_getElem hi2] at hl
    rcases List.mem_append.1 hl with hl|hl
    · exact hq l hl
    rw[List.mem_singleton.1 hl];omega
theorem rcheck_f {s:List (List RwT)} (h:smallS s):Ev (fun k=>aE.f k (s.length:Int) (cellsF 0 s)) (chkS s):=by
  unfold aE.f
  refine Q.Ev.ite (fun c=>Ev.ok ?_) (fun c=>?_)
  · unfold chkS
    rw[if_neg fun q=>by have:=q.1;omega]
  refine rcheck_l0 h (fun h60=>?_) (fun h60=>?_) s.length 0 (by omega) (by omega) (by simp)
  · have:=rcheck_l1 (n:=(s.length:Int)) (c:=cellsF 0 s) (by have:=small_cells h;omega) (cellsF 0 s).length 0 (by omega) (by omega)
    rw[List.drop_zero] at this
    refine Ev.eq this ?_
    have e:goodC (prevC (cellsF 0 s) 0) (cellsF 0 s)↔ ∀ l ∈ s,rising 0 (idsT l)=0∧∀ r ∈ l,r.f1.size≤200:=good_cells s 0 none (by simp)
    unfold chkS
    by_cases g: ∀ l ∈ s,rising 0 (idsT l)=0∧∀ r ∈ l,r.f1.size≤200
    · rw[if_pos (e.2 g),if_pos ⟨by omega,fun l hl=> ⟨h60 l hl,g l hl⟩⟩]
    rw[if_neg fun q=>g (e.1 q),if_neg fun q=>g fun l hl=> (q.2 l hl).2]
  unfold chkS
  rw[if_neg fun q=>h60 fun l hl=> (q.2 l hl).1]
def okR (r:RwT):Prop:=(1≤r.f0∧r.f0≤999999)∧r.f1.size≤200
theorem okT.rows {l:List RwT} (h:okT l): ∀ r ∈ l,okR r:=fun r hr=> ⟨h.ids hr,h.2.2 r hr⟩
theorem row_size {r:RwT} (h:okR r):(rowB r).size≤206:=by
  unfold rowB
  rw[ByteArray.size_append,ByteArray.size_append,bytesB_size,bytesB_size,beL_length,beL_length]
  have:=h.2
  omega
theorem row_B {r:RwT} (h:okR r):Ev (fun k=>cK.f k r.f0 r.f1) (rowB r,0):=by
  unfold cK.f
  have h2:=h.2
  have h1:=h.1
  refine Ev.bind (octet_put_f 4 (by omega)) ?_
  rw[put4 h.1]
  refine Q.Ev.pos rfl (Ev.bind (octet_lay_f (by omega)) ?_)
  rw[lay_B h.2]
  refine Q.Ev.pos ?_ (Q.Ev.ok rfl)
  rw[ByteArray.size_append,bytesB_size,bytesB_size,beL_length,beL_length]
  omega
theorem rows_B: ∀ (l:List RwT) (acc:ByteArray),(∀ r ∈ l,okR r)→acc.size+1000 * l.length≤1000000000→Ev (fun k=>aW.rows k l acc) (acc++rowsB l,0)
  | [],acc,_,_=>by
    simp only[aW.rows,rowsB]
    exact Q.Ev.ok (by rw[app_nil])
  |r::l,acc,h,hs=>by
    simp only[aW.rows,rowsB]
    have hr:=h r List.mem_cons_self
    have hz:=row_size hr
    simp only[List.length_cons] at hs
    refine Ev.bind (row_B hr) (Q.Ev.pos rfl (Q.Ev.pos (by simp only;omega) ?_))
    have:=rows_B l (acc++rowB r) (fun x hx=>h x (List.mem_cons_of_mem _ hx)) (by rw[ByteArray.size_append];omega)
    rw[ByteArray.append_assoc] at this
    exact this
theorem rowsB_size: ∀ (l:List RwT),(∀ r ∈ l,okR r)→(rowsB l).size≤206 * l.length
  | [],_=>by simp only[rowsB];exact Nat.zero_le _
  |r::l,h=>by
    have h1:=row_size (h r List.mem_cons_self)
    have h2:=rowsB_size l fun x hx=>h x (List.mem_cons_of_mem _ hx)
    simp only[rowsB,ByteArray.size_append,List.length_cons]
    omega
theorem bt_B (n:Nat):aW.bt n=bytesB (beL 1 n):=rfl
theorem tabs_B: ∀ (s:List (List RwT)) (acc:ByteArray),(∀ l ∈ s,okT l)→acc.size+100000 * s.length≤100000000→Ev (fun k=>aW.tabs k s acc) (acc++tabsB s,0)
  | [],acc,_,_=>by
    simp only[aW.tabs,tabsB]
    exact Q.Ev.ok (by rw[app_nil])
  |l::s,acc,h,hs=>by
    simp only[aW.tabs,tabsB]
    have hl:=h l List.mem_cons_self
    have h60:=hl.1
    have hz:=rowsB_size l hl.rows
    simp only[List.length_cons] at hs
    have hb:(aW.bt l.length).size=1:=by rw[bt_B,bytesB_size,beL_length]
    refine Q.Ev.pos (by omega) (Ev.bind (rows_B l (acc++aW.bt l.length) hl.rows (by rw[ByteArray.size_append];omega)) (Q.Ev.pos rfl ?_))
    have:=tabs_B s (acc++aW.bt l.length++rowsB l) (fun x hx=>h x (List.mem_cons_of_mem _ hx)) (by rw[ByteArray.size_append,ByteArray.size_append];omega)
    rw[bt_B] at this⊢
    simp only[ByteArray.append_assoc] at this⊢
    exact this
def putR (s:List (List RwT)):ByteArray × Int:=if chkS s=0 then(putB s,0)else(⟨#[]⟩,40)
theorem bput_f {s:List (List RwT)} (h:smallS s):Ev (fun k=>aW.f k s) (putR s):=by
  unfold aW.f putR
  refine Ev.bind (bcheck_f h) (Q.Ev.ite (fun c=>?_) (fun c=>Q.Ev.ok ?_))
  · rw[if_pos c]
    have hok:=chk_zero_S.1 c
    have hb:(aW.bt s.length).size=1:=by rw[bt_B,bytesB_size,beL_length]
    exact tabs_B s (aW.bt s.length) hok.2 (by have:=hok.1;omega)
  rw[if_neg c,chk_bad_S c]
theorem byte_B (n:Nat):strOfNums [((n:Int)) % 256] =bytesB (beL 1 n):=by
  have e: [((n:Int)) % 256] =natI (beL 1 n):=by
    simp only[beL,natI,List.nil_append,List.map_cons,List.map_nil,toNat_ofNat]
    rfl
  rw[e,strOfNums_nat]
section
variable {s:List (List RwT)}
theorem cells_at {i:Nat} (hi:i < s.length):cellsF 0 s=cellsF 0 (s.take i)++(s[i].map (rowC (i:Int))++cellsF ((i:Int)+1) (s.drop (i+1))):=by
  conv=>lhs;rw[←List.take_append_drop i s,drop_cons hi]
  rw[cells_append,List.length_take,Nat.min_eq_left (by omega),Int.zero_add]
  rfl
theorem cell_in {i j:Nat} (hi:i < s.length) (hj:j < s[i].length): ∃ h:(cellsF 0 (s.take i)).length+j < (cellsF 0 s).length,(cellsF 0 s)[(cellsF 0 (s.take i)).length+j] =rowC (i:Int) s[i][j] :=by
  have e:=cells_at hi
  have hl:(cellsF 0 (s.take i)).length+j < (cellsF 0 s).length:=by
    rw[e]
    simp only[List.length_append,List.length_map]
    omega
  refine⟨hl,?_⟩
  have:(cellsF 0 s)[(cellsF 0 (s.take i)).length+j]? =some (rowC (i:Int) s[i][j]):=by
    rw[e,List.getElem?_append_right (by omega),Nat.add_sub_cancel_left,List.getElem?_append_left (by simpa using hj)]
    simp[hj]
  rw[List.getElem?_eq_getElem hl] at this
  exact Option.some.inj this
theorem cell_past {i:Nat} (hi:i < s.length) (h:(cellsF 0 (s.take i)).length+s[i].length < (cellsF 0 s).length):(cellsF 0 s)[(cellsF 0 (s.take i)).length+s[i].length].f0≠(i:Int):=by
  have e:=cells_at hi
  have:(cellsF 0 s)[(cellsF 0 (s.take i)).length+s[i].length]? =(cellsF ((i:Int)+1) (s.drop (i+1)))[0]? :=by
    rw[e,List.getElem?_append_right (by omega),Nat.add_sub_cancel_left,List.getElem?_append_right (by simp)]
    simp
  rw[List.getElem?_eq_getElem h] at this
  have hm:=List.mem_of_getElem? this.symm
  obtain⟨j,hj,h1,_⟩:=(mem_cells _ _).1 hm
  omega
theorem base_succ {i:Nat} (hi:i < s.length):(cellsF 0 (s.take (i+1))).length=(cellsF 0 (s.take i)).length+s[i].length:=by
  rw[List.take_succ_eq_append_getElem hi,cells_append]
  simp[cellsF]
theorem base_le (i:Nat) (hok:okS s):(cellsF 0 (s.take i)).length≤100000:=by
  refine small_cells ⟨?_,fun l hl=>?_⟩
  · have:=hok.1
    rw[List.length_take]
    omega
  have:=(hok.2 l (List.mem_of_mem_take hl)).1
  omega
theorem rput_l1 (hok:okS s) {i:Nat} (hi:i < s.length) {R:ByteArray × Int} {F:ByteArray} (hR:Ev (fun k=>aJ.l0 k F (((cellsF 0 (s.take (i+1))).length:Nat):Int) ((i+1:Nat):Int) (s.length:Int) (cellsF 0 s)) R) (d:Nat):
    ∀ (j:Nat) (acc:ByteArray),s[i].length - j=d→j≤s[i].length→acc.size+1000 *(s[i].length - j)≤1000000000→acc++rowsB (s[i].drop j)=F→Ev (fun k=>aJ.l1 k acc (((cellsF 0 (s.take i)).length+j:Nat):Int) (i:Int) (s.length:Int) (cellsF 0 s)) R:=by
  have h8:=hok.1
  have hT:=hok.2 _ (List.getElem_mem hi)
  have hb:=base_le i hok
  have h60:=hT.1
  induction d with
  |zero=>
    intro j acc hd hj ha hF
    have ej:j=s[i].length:=by omega
    subst ej
    rw[List.drop_length] at hF
    simp only[rowsB,app_nil] at hF
    subst hF
    have j2:Ev (fun k=>aJ.j2 k acc (((cellsF 0 (s.take i)).length+s[i].length:Nat):Int) (i:Int) false (s.length:Int) (cellsF 0 s)) R:=by
      refine Ev.step (fun k=>by simp only[aJ.j2];rfl) (Q.Ev.neg Bool.false_ne_true ?_)
      rw[wrap_eq (by omega) (by omega)]
      rw[base_succ hi] at hR
      exact hR
    refine Ev.step (fun k=>by simp only[aJ.l1];rfl) (Q.Ev.ite (fun c=>Q.Ev.pos (by omega) ?_) (fun c=>j2))
    have hlt:(cellsF 0 (s.take i)).length+s[i].length < (cellsF 0 s).length:=by omega
    rw[rdC hlt,beq_eq_false_iff_ne.2 (cell_past hi hlt)]
    exact j2
  |succ d ih=>
    intro j acc hd hj ha hF
    have hj2:j < s[i].length:=by omega
    obtain⟨hlt,he⟩:=cell_in hi hj2
    have hr:=hT.rows _ (List.getElem_mem hj2)
    have hz:=row_size hr
    have h2:=hr.2
    have h1:=hr.1
    refine Ev.step (fun k=>by simp only[aJ.l1];rfl) (Q.Ev.pos (by omega) (Q.Ev.pos (by omega) ?_))
    rw[rdC hlt,he]
    refine Ev.step (fun k=>by simp only[aJ.j2];rfl) (Q.Ev.pos (by simp[rowC]) (Q.Ev.pos (by omega) (Q.Ev.pos (by omega) ?_)))
    rw[rdC hlt,he,wrap_eq (by omega) (by omega)]
    refine Ev.bind (ref05_put_f (n:=(rowC (i:Int) s[i][j]).f1) 4 (by simp only[rowC];omega)) ?_
    have e4:putS (rowC (i:Int) s[i][j]).f1 4=(bytesB (beL 4 s[i][j].f0.toNat),0):=put4 h1
    rw[e4]
    refine Q.Ev.bindc (ref05_lay_f (t:=(rowC (i:Int) s[i][j]).f2) (by simp only[rowC];omega)) ?_
    have e2:layS (rowC (i:Int) s[i][j]).f2=(bytesB (beL 2 s[i][j].f1.size)++s[i][j].f1,0):=lay_B h2
    rw[e2]
    refine Q.Ev.pos (by simp only[bytesB_size,beL_length];omega) (Q.Ev.pos (by simp only[ByteArray.size_append,bytesB_size,beL_length];omega) ?_)
    have:=ih (j+1) ((acc++bytesB (beL 4 s[i][j].f0.toNat))++(bytesB (beL 2 s[i][j].f1.size)++s[i][j].f1)) (by omega) (by omega) (by simp only[ByteArray.size_append,bytesB_size,beL_length];omega) (by rw[←hF,drop_cons hj2];simp only[rowsB,rowB,ByteArray.append_assoc])
    exact this
theorem rput_l0 (hok:okS s) (d:Nat): ∀ (i:Nat) (acc:ByteArray),s.length - i=d→i≤s.length→acc.size≤100000 *(i+1)→Ev (fun k=>aJ.l0 k acc (((cellsF 0 (s.take i)).length:Nat):Int) (i:Int) (s.length:Int) (cellsF 0 s)) (acc++tabsB (s.drop i),0):=by
  have h8:=hok.1
  have hc:=small_cells hok.small
  induction d with
  |zero=>
    intro i acc hd hi ha
    refine Ev.step (fun k=>by simp only[aJ.l0];rfl) (Ev.neg (by omega) (Ev.ok ?_))
    rw[List.drop_eq_nil_of_le (by omega)]
    simp only[tabsB,app_nil]
  |succ d ih=>
    intro i acc hd hi ha
    have hi2:i < s.length:=by omega
    have hT:=hok.2 _ (List.getElem_mem hi2)
    have h60:=hT.1
    have hz:=rowsB_size s[i] hT.rows
    have em:=many_cells s 0 i hi2
    rw[Int.zero_add] at em
    refine Ev.step (fun k=>by simp only[aJ.l0];rfl) (Ev.pos (by omega) (Ev.bind (many_f (i:Int) (by omega)) ?_))
    rw[em]
    refine Q.Ev.bindc rfl ?_
    rw[byte_B]
    refine Q.Ev.pos (by simp only[bytesB_size,beL_length];omega) ?_
    have hn:=ih (i+1) (acc++bytesB (beL 1 s[i].length)++rowsB s[i]) (by omega) (by omega) (by simp only[ByteArray.size_append,bytesB_size,beL_length];omega)
    have:=rput_l1 hok hi2 (F:=acc++bytesB (beL 1 s[i].length)++rowsB s[i]) hn s[i].length 0 (acc++bytesB (beL 1 s[i].length)) (by omega) (by omega) (by simp only[ByteArray.size_append,bytesB_size,beL_length];omega) (by rw[List.drop_zero])
    rw[Nat.add_zero] at this
    rw[drop_cons hi2]
    simp only[tabsB]
    simp only[ByteArray.append_assoc] at this⊢
    exact this
theorem rput_f (h:smallS s):Ev (fun k=>aJ.f k (s.length:Int) (cellsF 0 s)) (putR s):=by
  unfold aJ.f putR
  refine Ev.bind (rcheck_f h) (Q.Ev.ite (fun c=>?_) (fun c=>Q.Ev.ok ?_))
  · rw[if_pos c,byte_B]
    have hok:=chk_zero_S.1 c
    have:=rput_l0 hok s.length 0 (bytesB (beL 1 s.length)) (by omega) (by omega) (by rw[bytesB_size,beL_length];omega)
    rw[List.drop_zero] at this
    exact this
  rw[if_neg c]
end
theorem num_rng (s:ByteArray) (a e w:Int) {m:Int} (hm:0≤m):0≤(numR s a e w m).1∧(numR s a e w m).1≤m:=by
  by_cases c:e=0
  · subst c
    by_cases c2:(bigR (getS s a w) m).2.2=0
    · have hn:numR s a 0 w m=bigR (getS s a w) m:=pc_ok c2
      have:=num_ok (s:=s) (a:=a) (w:=w) (m:=m) (n:=(numR s a 0 w m).1) (t:=(numR s a 0 w m).2.1) (Prod.ext rfl (Prod.ext rfl (by rw[hn];exact c2)))
      exact⟨(getS_bytes this.1).2.2.2.2,this.2⟩
    have hn:numR s a 0 w m=(0,a,(bigR (getS s a w) m).2.2):=pc_err c2
    rw[hn]
    exact⟨Int.le_refl _,hm⟩
  rw[num_bad s a w m c]
  exact⟨Int.le_refl _,hm⟩
theorem takeRows_len (s:ByteArray): ∀ (n:Nat) (a e:Int),(takeRows s n a e).1.length=n
  |0,a,e=>rfl
  |n+1,a,e=>by simp only[takeRows,List.length_cons,takeRows_len s n]
theorem takeTabs_len (s:ByteArray): ∀ (n:Nat) (a e:Int),(takeTabs s n a e).1.length=n∧∀ l ∈ (takeTabs s n a e).1,l.length≤60
  |0,a,e=> ⟨rfl,by simp[takeTabs]⟩
  |n+1,a,e=>by
    obtain⟨h1,h2⟩:=takeTabs_len s n (takeRows s (numR s a e 1 60).1.toNat (numR s a e 1 60).2.1 (numR s a e 1 60).2.2).2.1 (takeRows s (numR s a e 1 60).1.toNat (numR s a e 1 60).2.1 (numR s a e 1 60).2.2).2.2
    simp only[takeTabs,List.length_cons]
    refine⟨by rw[h1],fun l hl=>?_⟩
    rcases List.mem_cons.1 hl with rfl|hl
    · rw[takeRows_len]
      have:=num_rng s a e 1 (m:=60) (by decide)
      omega
    exact h2 l hl
theorem btake_l1 {s:ByteArray} {n:Int} {i N:Nat} {R:List (List RwT) × Int} (hs:s.size < 1099511627776) (hi:i≤100) (hN:N≤60) (d:Nat): ∀ (j:Nat) (acc:List RwT) (a e:Int) (st:List (List RwT)),N - j=d→j≤N→acc.length≤j→st.length≤100→Ev (fun k=>bK.l0 k n ((i+1:Nat):Int) s (takeRows s d a e).2.1 (flt (takeRows s d a e).2.1 (takeRows s d a e).2.2) true (st++ [acc++(takeRows s d a e).1])) R→Ev (fun k=>bK.l1 k acc n (i:Int) (N:Int) (j:Int) s a (flt a e) true st) R:=by
  induction d with
  |zero=>
    intro j acc a e st hd hj ha hst hR
    refine Ev.step (fun k=>by simp only[bK.l1];rfl) (Q.Ev.neg (by omega) (Q.Ev.pos (by omega) ?_))
    rw[wrap_eq (by omega) (by omega)]
    simp only[takeRows,List.append_nil] at hR
    exact hR
  |succ d ih=>
    intro j acc a e st hd hj ha hst hR
    refine Ev.step (fun k=>by simp only[bK.l1];rfl) (Q.Ev.pos (by omega) (Ev.bind (num_f (s:=s) a e 4 999999 (by omega)) (Ev.bind (text_f (s:=s) _ _ 200 (by omega)) (Q.Ev.pos (show acc.length < 5864062014805 by omega) ?_))))
    rw[wrap_eq (by omega) (by omega)]
    simp only[takeRows] at hR
    refine ih (j+1) _ _ _ st (by omega) (by omega) (by simp;omega) hst ?_
    simp only[List.append_assoc,List.singleton_append]
    exact hR
def finT (s:ByteArray) (q:List (List RwT) × Int × Int):List (List RwT) × Int:=if endR s q.2.1 q.2.2=0 then(if chkS q.1=0 then(q.1,0)else([],chkS q.1))else([],endR s q.2.1 q.2.2)
theorem btake_l0 {s:ByteArray} {n:Nat} (hs:s.size < 1099511627776) (hn:n≤8) (d:Nat): ∀ (i:Nat) (a e:Int) (st:List (List RwT)),n - i=d→i≤n→st.length=i→(∀ l ∈ st,l.length≤60)→Ev (fun k=>bK.l0 k (n:Int) (i:Int) s a (flt a e) true st) (finT s (st++(takeTabs s d a e).1,(takeTabs s d a e).2)):=by
  induction d with
  |zero=>
    intro i a e st hd hi hl hst
    refine Ev.step (fun k=>by simp only[bK.l0];rfl) (Q.Ev.neg (by omega) (Q.Ev.bindc (end_f s a e) (Q.Ev.bindc (err_f s a _) (Q.Ev.bindc (why_f a (endR s a e)) ?_))))
    simp only[takeTabs,List.append_nil]
    unfold finT
    simp only
    refine Q.Ev.ite (fun c=>?_) (fun c=>Q.Ev.ok ?_)
    · rw[if_pos c]
      refine Ev.bind (bcheck_f ⟨by omega,fun l hl=>by have:=hst l hl;omega⟩) (Q.Ev.ite (fun c2=>Q.Ev.ok ?_) (fun c2=>Q.Ev.ok ?_))
      · rw[if_pos c2]
      rw[if_neg c2]
    rw[if_neg c]
  |succ d ih=>
    intro i a e st hd hi hl hst
    have hr:=num_rng s a e 1 (m:=60) (by decide)
    refine Ev.step (fun k=>by simp only[bK.l0];rfl) (Q.Ev.pos (by omega) (Ev.bind (num_f a e 1 60 (by omega)) ?_))
    obtain⟨N,hN⟩:=Int.eq_ofNat_of_zero_le hr.1
    simp only
    rw[hN]
    refine btake_l1 hs (by omega) (by omega) N 0 [] _ _ st (by omega) (by omega) (by simp) (by omega) ?_
    have:=ih (i+1) (takeRows s N (numR s a e 1 60).2.1 (numR s a e 1 60).2.2).2.1 (takeRows s N (numR s a e 1 60).2.1 (numR s a e 1 60).2.2).2.2 (st++ [(takeRows s N (numR s a e 1 60).2.1 (numR s a e 1 60).2.2).1]) (by omega) (by omega) (by simp[hl]) (fun l hl2=>by
      rcases List.mem_append.1 hl2 with hl2|hl2
      · exact hst l hl2
      rw[List.mem_singleton.1 hl2,takeRows_len];omega)
    simp only[takeTabs]
    rw[hN]
    simp only[Int.toNat_natCast,List.append_assoc,List.singleton_append,List.nil_append] at this⊢
    exact this
theorem takeB_fin (s:ByteArray):takeB s=finT s (takeTabs s (numR s 0 0 1 8).1.toNat (numR s 0 0 1 8).2.1 (numR s 0 0 1 8).2.2):=rfl
theorem btake_f {s:ByteArray} (hs:s.size < 1099511627776):Ev (fun k=>bK.f k s) (takeB s):=by
  have hr:=num_rng s 0 0 1 (m:=8) (by decide)
  obtain⟨N,hN⟩:=Int.eq_ofNat_of_zero_le hr.1
  unfold bK.f
  refine Q.Ev.bindc (show dA.f s=some (s,0,none,true)from rfl) (Ev.bind (num_f (s:=s) 0 0 1 8 (by omega)) ?_)
  simp only
  rw[takeB_fin,hN,Int.toNat_natCast]
  exact btake_l0 hs (by omega) N 0 _ _ [] (by omega) (by omega) rfl (by simp)
def asT (r:List (List RwT) × Int):Int × List CeT × Int:=((r.1.length:Int),cellsF 0 r.1,r.2)
theorem rtake_end {s:ByteArray} {n i a e nT:Int} {acc:List CeT} (he:e≠0):Ev (fun k=>aD.j1 k n i false s a e nT acc) (0,[],e):=by
  have ee:endR s a e=e:=by
    unfold endR
    rw[if_neg fun q=>he q.1]
  refine Ev.step (fun k=>by simp only[aD.j1];rfl) (Q.Ev.neg Bool.false_ne_true (Q.Ev.bindc (rend_f s a e) ?_))
  simp only
  rw[ee]
  exact Q.Ev.neg he (Q.Ev.ok rfl)
theorem rtake_bad {s:ByteArray} {n i a e nT:Int} {acc:List CeT} (he:e≠0):Ev (fun k=>aD.l0 k n i s a e nT acc) (0,[],e):=by
  refine Ev.step (fun k=>by simp only[aD.l0];rfl) (Q.Ev.ite (fun c=>?_) (fun c=>rtake_end he))
  rw[beq_eq_false_iff_ne.2 he]
  exact rtake_end he
theorem rtake_l1 {s:ByteArray} {n nT:Int} {i N:Nat} {R:Int × List CeT × Int} (hs:s.size < 1099511627776) (hi:i≤100) (hN:N≤60) (d:Nat): ∀ (j:Nat) (acc:List CeT) (a e:Int),N - j=d→j≤N→acc.length≤1000 * i+j→
    ((takeRows s d a e).2.2=0→Ev (fun k=>aD.l0 k n ((i+1:Nat):Int) s (takeRows s d a e).2.1 0 nT (acc++(takeRows s d a e).1.map (rowC (i:Int)))) R)→((takeRows s d a e).2.2≠0→R=(0,[],(takeRows s d a e).2.2))→Ev (fun k=>aD.l1 k n (i:Int) (N:Int) (j:Int) s a e nT acc) R:=by
  have stop: ∀ (j:Nat) (a e:Int) (acc:List CeT),Ev (fun k=>aD.l0 k n ((i+1:Nat):Int) s a e nT acc) R→Ev (fun k=>aD.j3 k n (i:Int) (N:Int) (j:Int) false s a e nT acc) R:=fun j a e acc h=>by
    refine Ev.step (fun k=>by simp only[aD.j3];rfl) (Q.Ev.neg Bool.false_ne_true ?_)
    rw[wrap_eq (by omega) (by omega)]
    exact h
  induction d with
  |zero=>
    intro j acc a e hd hj ha h0 h1
    refine Ev.step (fun k=>by simp only[aD.l1];rfl) (Q.Ev.neg (by omega) (stop j a e acc ?_))
    simp only[takeRows,List.map_nil,List.append_nil] at h0 h1
    by_cases c:e=0
    · rw[c];exact h0 c
    rw[h1 c];exact rtake_bad c
  |succ d ih=>
    intro j acc a e hd hj ha h0 h1
    refine Ev.step (fun k=>by simp only[aD.l1];rfl) (Q.Ev.pos (by omega) ?_)
    by_cases c:e=0
    · rw[beq_iff_eq.2 c]
      refine Ev.step (fun k=>by simp only[aD.j3];rfl) (Q.Ev.pos (show(true:Bool)=true from rfl) (Ev.bind (rnum_f (s:=s) a e 4 999999 (by omega)) (Ev.bind (rtext_f (s:=s) _ _ 200 (by omega)) (Q.Ev.pos (show acc.length < 4398046511104 by omega) ?_))))
      rw[wrap_eq (by omega) (by omega)]
      simp only[takeRows] at h0 h1
      refine ih (j+1) _ _ _ (by omega) (by omega) (by simp;omega) (fun g=>?_) h1
      have:=h0 g
      simp only[List.map_cons,List.append_assoc,List.singleton_append] at this⊢
      exact this
    rw[beq_eq_false_iff_ne.2 c]
    refine stop j a e acc ?_
    have hb:=rows_bad s (d+1) a c
    rw[h1 (by rw[hb];exact c),hb]
    exact rtake_bad c
theorem cells_snoc (st:List (List RwT)) (l:List RwT):cellsF 0 (st++ [l])=cellsF 0 st++l.map (rowC (st.length:Int)):=by
  rw[cells_append,Int.zero_add]
  simp only[cellsF,List.append_nil]
  rfl
theorem rtake_l0 {s:ByteArray} {n:Nat} (hs:s.size < 1099511627776) (hn:n≤8) (d:Nat): ∀ (i:Nat) (a e:Int) (st:List (List RwT)),n - i=d→i≤n→st.length=i→(∀ l ∈ st,l.length≤60)→Ev (fun k=>aD.l0 k (n:Int) (i:Int) s a e (n:Int) (cellsF 0 st)) (asT (finT s (st++(takeTabs s d a e).1,(takeTabs s d a e).2))):=by
  have bad: ∀ (m:Nat) (a e:Int) (st:List (List RwT)),e≠0→asT (finT s (st++(takeTabs s m a e).1,(takeTabs s m a e).2))=(0,[],e):=fun m a e st he=>by
    have hb:=tabs_bad s m a he
    have ee:endR s a e=e:=by
      unfold endR
      rw[if_neg fun q=>he q.1]
    unfold finT
    simp only
    rw[hb]
    simp only
    rw[ee,if_neg he]
    rfl
  induction d with
  |zero=>
    intro i a e st hd hi hl hst
    by_cases he:e=0
    · refine Ev.step (fun k=>by simp only[aD.l0];rfl) (Q.Ev.neg (by omega) ?_)
      refine Ev.step (fun k=>by simp only[aD.j1];rfl) (Q.Ev.neg Bool.false_ne_true (Q.Ev.bindc (rend_f s a e) ?_))
      simp only[takeTabs,List.append_nil]
      unfold finT
      simp only
      have en:(n:Int)=(st.length:Int):=by omega
      rw[en]
      refine Q.Ev.ite (fun c=>?_) (fun c=>Q.Ev.ok ?_)
      · rw[if_pos c]
        refine Ev.bind (rcheck_f ⟨by omega,fun l hl=>by have:=hst l hl;omega⟩) (Q.Ev.ite (fun c2=>Q.Ev.ok ?_) (fun c2=>Q.Ev.ok ?_))
        · rw[if_pos c2];rfl
        rw[if_neg c2,chk_bad_S c2];rfl
      rw[if_neg c];rfl
    rw[bad 0 a e st he]
    exact rtake_bad he
  |succ d ih=>
    intro i a e st hd hi hl hst
    by_cases he:e=0
    · have hr:=num_rng s a e 1 (m:=60) (by decide)
      refine Ev.step (fun k=>by simp only[aD.l0];rfl) (Q.Ev.pos (by omega) ?_)
      rw[beq_iff_eq.2 he]
      refine Ev.step (fun k=>by simp only[aD.j1];rfl) (Q.Ev.pos (show(true:Bool)=true from rfl) (Ev.bind (rnum_f (s:=s) a e 1 60 (by omega)) ?_))
      obtain⟨N,hN⟩:=Int.eq_ofNat_of_zero_le hr.1
      simp only
      rw[hN]
      have hcl:(cellsF 0 st).length≤1000 * i:=by
        have:=cells_len st 0 fun l hl=>by have:=hst l hl;omega
        rw[hl] at this
        exact this
      have et:takeTabs s (d+1) a e=((takeRows s N (numR s a e 1 60).2.1 (numR s a e 1 60).2.2).1::(takeTabs s d (takeRows s N (numR s a e 1 60).2.1 (numR s a e 1 60).2.2).2.1 (takeRows s N (numR s a e 1 60).2.1 (numR s a e 1 60).2.2).2.2).1,(takeTabs s d (takeRows s N (numR s a e 1 60).2.1 (numR s a e 1 60).2.2).2.1 (takeRows s N (numR s a e 1 60).2.1 (numR s a e 1 60).2.2).2.2).2):=by
        simp only[takeTabs]
        rw[hN,Int.toNat_natCast]
      rw[et]
      refine rtake_l1 hs (by omega) (by omega) N 0 (cellsF 0 st) _ _ (by omega) (by omega) (by omega) (fun g=>?_) (fun g=>?_)
      · have:=ih (i+1) (takeRows s N (numR s a e 1 60).2.1 (numR s a e 1 60).2.2).2.1 (takeRows s N (numR s a e 1 60).2.1 (numR s a e 1 60).2.2).2.2 (st++ [(takeRows s N (numR s a e 1 60).2.1 (numR s a e 1 60).2.2).1]) (by omega) (by omega) (by simp[hl]) (fun l hl2=>by
          rcases List.mem_append.1 hl2 with hl2|hl2
          · exact hst l hl2
          rw[List.mem_singleton.1 hl2,takeRows_len];omega)
        rw[cells_snoc,hl] at this
        rw[g] at this⊢
        simp only[List.append_assoc,List.singleton_append] at this⊢
        exact this
      have:=bad d (takeRows s N (numR s a e 1 60).2.1 (numR s a e 1 60).2.2).2.1 (takeRows s N (numR s a e 1 60).2.1 (numR s a e 1 60).2.2).2.2 (st++ [(takeRows s N (numR s a e 1 60).2.1 (numR s a e 1 60).2.2).1]) g
      simp only[List.append_assoc,List.singleton_append] at this⊢
      exact this
    rw[bad (d+1) a e st he]
    exact rtake_bad he
theorem rtake_f {s:ByteArray} (hs:s.size < 1099511627776):Ev (fun k=>aD.f k s) (asT (takeB s)):=by
  have hr:=num_rng s 0 0 1 (m:=8) (by decide)
  obtain⟨N,hN⟩:=Int.eq_ofNat_of_zero_le hr.1
  unfold aD.f
  refine Ev.bind (rnum_f (s:=s) 0 0 1 8 (by omega)) ?_
  simp only
  rw[takeB_fin,hN,Int.toNat_natCast]
  exact rtake_l0 hs (by omega) N 0 _ _ [] (by omega) (by omega) rfl (by simp)
theorem takeB_small (s:ByteArray):smallS (takeB s).1:=by
  have nil:smallS [] :=⟨by simp,by simp⟩
  have hr:=num_rng s 0 0 1 (m:=8) (by decide)
  obtain⟨h1,h2⟩:=takeTabs_len s (numR s 0 0 1 8).1.toNat (numR s 0 0 1 8).2.1 (numR s 0 0 1 8).2.2
  rw[takeB_fin]
  unfold finT
  split
  · split
    · exact⟨by simp only[h1];omega,fun l hl=>by have:=h2 l hl;omega⟩
    exact nil
  exact nil
end Go.Proofs.Ytdpcgigjlcpofaa.Q
namespace Go.Proofs.Ytdpcgigjlcpofaa.Q
open Go.RowKit Ytdpcgigjlcpofaa.F YtdpcgigjlcpofaaX YtdpcgigjlcpofaaW.PrintWords YtdpcgigjlcpofaaW.PrintLast YtdpcgigjlcpofaaW.PrintMore
def goesD (i:Int) (a b:List RwT):List OpX:=(a.filter fun r=>decide (r.f0 ∉ idsT b)).map fun r=> ⟨i,3,r.f0,⟨#[]⟩⟩
def comeD (i:Int) (a:List RwT) (r:RwT):List OpX:=if r.f0 ∉ idsT a then [⟨i,1,r.f0,r.f1⟩] else if textT a r.f0≠r.f1 then [⟨i,2,r.f0,r.f1⟩] else []
def betweenS (i:Int) (a b:List RwT):List OpX:=goesD i a b++b.flatMap (comeD i a)
def diffS:Int→List (List RwT)→List (List RwT)→List OpX
  |i,a::A,b::B=>betweenS i a b++diffS (i+1) A B
  |_,_,_=> []
theorem filter_flat {α β:Type} (p:α→Prop) [DecidablePred p] (f:α→β): ∀ l:List α,(l.filter fun x=>decide (p x)).map f=l.flatMap fun x=>if p x then [f x] else []
  | [] =>rfl
  |x::l=>by
    rw[List.flatMap_cons,←filter_flat p f l]
    by_cases c:p x
    · rw[List.filter_cons_of_pos (by simpa using c),if_pos c];rfl
    rw[List.filter_cons_of_neg (by simpa using c),if_neg c];rfl
def goD1 (i:Int) (b:List RwT) (r:RwT):List OpX:=if r.f0 ∉ idsT b then [⟨i,3,r.f0,⟨#[]⟩⟩] else []
theorem goesD_flat (i:Int) (a b:List RwT):goesD i a b=a.flatMap (goD1 i b):=filter_flat (fun r:RwT=>r.f0 ∉ idsT b) (fun r:RwT=> (⟨i,3,r.f0,⟨#[]⟩⟩:OpX)) a
theorem flat_len {α β:Type} {g:α→List β} (h: ∀ x,(g x).length≤1): ∀ l:List α,(l.flatMap g).length≤l.length
  | [] =>Nat.le_refl _
  |x::l=>by
    rw[List.flatMap_cons,List.length_append,List.length_cons]
    have:=h x
    have:=flat_len h l
    omega
theorem goD1_len (i:Int) (b:List RwT) (r:RwT):(goD1 i b r).length≤1:=by
  unfold goD1
  split <;> simp
theorem comeD_len (i:Int) (a:List RwT) (r:RwT):(comeD i a r).length≤1:=by
  unfold comeD
  split
  · simp
  split <;> simp
theorem between_len (i:Int) (a b:List RwT):(betweenS i a b).length≤a.length+b.length:=by
  unfold betweenS
  rw[List.length_append,goesD_flat]
  have:=flat_len (goD1_len i b) a
  have:=flat_len (comeD_len i a) b
  omega
theorem between_l1 {i:Int} {a b:List RwT} (ha:okT a) (hb:okT b) (d:Nat): ∀ (j:Nat) (acc:List OpX),b.length - j=d→j≤b.length→acc.length≤1000+j→Ev (fun k=>aX.l1 k i a (acc.map ofX) b (b.length:Int) (j:Int)) ((acc++(b.drop j).flatMap (comeD i a)).map ofX):=by
  have h1:=ha.1
  have h2:=hb.1
  induction d with
  |zero=>
    intro j acc hd hj hl
    refine Ev.step (fun k=>by simp only[aX.l1];rfl) (Q.Ev.neg (by omega) (Q.Ev.ok ?_))
    rw[List.drop_eq_nil_of_le (by omega)]
    simp
  |succ d ih=>
    intro j acc hd hj hl
    have hj2:j < b.length:=by omega
    refine Ev.step (fun k=>by simp only[aX.l1];rfl) (Q.Ev.pos (by omega) (Q.Ev.pos (by omega) (Q.Ev.pos (by omega) ?_)))
    rw[rdR hj2,drop_cons hj2,List.flatMap_cons,wrap_eq (x:=(j:Int)+1) (by omega) (by omega),←List.append_assoc]
    refine Ev.bind (bfind_f (l:=a) (by omega) b[j].f0) ?_
    rw[find_T ha]
    have push: ∀ o:OpX,comeD i a b[j] =[o]→∀ x:BoT,x=ofX o→Ev (fun k=>if(acc.map ofX).length < 3518437208883 then aX.l1 k i a (acc.map ofX++ [x]) b (b.length:Int) ((j:Int)+1)else none) ((acc++comeD i a b[j] ++(b.drop (j+1)).flatMap (comeD i a)).map ofX):=by
      intro o ho x hx
      refine Q.Ev.pos (by rw[List.length_map];omega) ?_
      have:=ih (j+1) (acc++ [o]) (by omega) (by omega) (by simp;omega)
      rw[ho,hx]
      rw[List.map_append (l₂:=[o])] at this
      exact this
    refine Q.Ev.ite (fun c=>?_) (fun c=>?_)
    · have hm:=of_decide_eq_true c
      obtain⟨hp,e0,e1⟩:=at_in ha hm
      refine Q.Ev.pos (by omega) (Q.Ev.pos (by omega) ?_)
      rw[rdR hp,e0,e1]
      refine Q.Ev.ite (fun c2=>?_) (fun c2=>?_)
      · refine push ⟨i,2,b[j].f0,b[j].f1⟩ ?_ _ rfl
        unfold comeD
        rw[if_neg fun q=>q hm,if_pos fun q=>by rw[q] at c2;simp at c2]
      have hc:comeD i a b[j] =[] :=by
        unfold comeD
        rw[if_neg fun q=>q hm,if_neg fun q=>c2 ?_]
        simp only[beq_self_eq_true,Bool.not_true,Bool.false_or,Bool.not_eq_true',beq_eq_false_iff_ne,ne_eq]
        exact fun w=>q (bytes_ext.1 w)
      rw[hc,List.append_nil]
      exact ih (j+1) acc (by omega) (by omega) (by omega)
    have hm:=of_decide_eq_false (Bool.eq_false_iff.2 c)
    exact push ⟨i,1,b[j].f0,b[j].f1⟩ (by unfold comeD;rw[if_pos hm]) _ rfl
theorem between_l0 {i:Int} {a b:List RwT} (ha:okT a) (hb:okT b) (d:Nat): ∀ (j:Nat) (acc:List OpX),a.length - j=d→j≤a.length→acc.length≤j→Ev (fun k=>aX.l0 k i a b (acc.map ofX) a (a.length:Int) (j:Int)) ((acc++(a.drop j).flatMap (goD1 i b)++b.flatMap (comeD i a)).map ofX):=by
  have h1:=ha.1
  have h2:=hb.1
  induction d with
  |zero=>
    intro j acc hd hj hl
    refine Ev.step (fun k=>by simp only[aX.l0];rfl) (Q.Ev.neg (by omega) ?_)
    rw[List.drop_eq_nil_of_le (by omega),List.flatMap_nil,List.append_nil]
    have:=between_l1 (i:=i) ha hb b.length 0 acc (by omega) (by omega) (by omega)
    rw[List.drop_zero] at this
    exact this
  |succ d ih=>
    intro j acc hd hj hl
    have hj2:j < a.length:=by omega
    refine Ev.step (fun k=>by simp only[aX.l0];rfl) (Q.Ev.pos (by omega) (Q.Ev.pos (by omega) (Q.Ev.pos (by omega) ?_)))
    rw[rdR hj2,drop_cons hj2,List.flatMap_cons,wrap_eq (x:=(j:Int)+1) (by omega) (by omega),←List.append_assoc]
    refine Ev.bind (bfind_f (l:=b) (by omega) a[j].f0) ?_
    rw[find_T hb]
    refine Q.Ev.ite (fun c=>?_) (fun c=>Q.Ev.pos (by rw[List.length_map];omega) ?_)
    · have hm:=of_decide_eq_true c
      have hc:goD1 i b a[j] =[] :=by unfold goD1;rw[if_neg fun q=>q hm]
      rw[hc,List.append_nil]
      exact ih (j+1) acc (by omega) (by omega) (by omega)
    have hm:=of_decide_eq_false (Bool.eq_false_iff.2 c)
    have hc:goD1 i b a[j] =[⟨i,3,a[j].f0,⟨#[]⟩⟩] :=by unfold goD1;rw[if_pos hm]
    rw[hc]
    have:=ih (j+1) (acc++ [⟨i,3,a[j].f0,⟨#[]⟩⟩]) (by omega) (by omega) (by simp;omega)
    rw[List.map_append (l₁:=acc) (l₂:=[_])] at this
    exact this
theorem between_f {i:Int} {a b:List RwT} (ha:okT a) (hb:okT b):Ev (fun k=>aX.f k i a b) ((betweenS i a b).map ofX):=by
  unfold aX.f betweenS
  have:=between_l0 (i:=i) ha hb a.length 0 [] (by omega) (by omega) (by simp)
  rw[List.drop_zero,List.nil_append,←goesD_flat] at this
  exact this
theorem diff_len: ∀ (A B:List (List RwT)) (i:Int),(∀ l ∈ A,okT l)→(∀ l ∈ B,okT l)→(diffS i A B).length≤120 * A.length
  | [],_,_,_,_=>by simp[diffS]
  |_::_,[],_,_,_=>by simp[diffS]
  |a::A,b::B,i,hA,hB=>by
    have h1:=between_len i a b
    have h2:=(hA a List.mem_cons_self).1
    have h3:=(hB b List.mem_cons_self).1
    have h4:=diff_len A B (i+1) (fun l hl=>hA l (List.mem_cons_of_mem _ hl)) (fun l hl=>hB l (List.mem_cons_of_mem _ hl))
    simp only[diffS,List.length_append,List.length_cons]
    omega
theorem bdiff_l0 {a b:List (List RwT)} (ha:okS a) (hb:okS b) (hab:a.length=b.length) (d:Nat): ∀ (i:Nat) (acc:List OpX),a.length - i=d→i≤a.length→acc.length≤1000 * i→Ev (fun k=>bN.l0 k (acc.map ofX) (a.length:Int) (i:Int) a b) ((acc++diffS (i:Int) (a.drop i) (b.drop i)).map ofX,0):=by
  have h8:=ha.1
  induction d with
  |zero=>
    intro i acc hd hi hl
    refine Ev.step (fun k=>by simp only[bN.l0];rfl) (Q.Ev.neg (by omega) (Q.Ev.ok ?_))
    rw[List.drop_eq_nil_of_le (by omega)]
    simp[diffS]
  |succ d ih=>
    intro i acc hd hi hl
    have hi2:i < a.length:=by omega
    have hi3:i < b.length:=by omega
    have hA:=ha.2 _ (List.getElem_mem hi2)
    have hB:=hb.2 _ (List.getElem_mem hi3)
    have hz:=between_len (i:Int) a[i] b[i]
    have:=hA.1
    have:=hB.1
    refine Ev.step (fun k=>by simp only[bN.l0];rfl) (Q.Ev.pos (by omega) (Q.Ev.pos (by omega) (Q.Ev.pos (by omega) (Q.Ev.pos (by omega) ?_))))
    rw[rdS hi2,rdS hi3,drop_cons hi2,drop_cons hi3,wrap_eq (x:=(i:Int)+1) (by omega) (by omega)]
    simp only[diffS]
    refine Ev.bind (between_f hA hB) (Q.Ev.pos (by rw[List.length_map,List.length_map];omega) ?_)
    have:=ih (i+1) (acc++betweenS (i:Int) a[i] b[i]) (by omega) (by omega) (by rw[List.length_append];omega)
    rw[List.map_append (l₁:=acc) (l₂:=betweenS _ _ _),List.append_assoc] at this
    exact this
def diffR (a b:List (List RwT)):List OpX × Int:=if chkS a=0 then(if chkS b=0 then(if a.length=b.length then(diffS 0 a b,0)else([],2))else([],40))else([],40)
theorem bdiff_f {a b:List (List RwT)} (ha:smallS a) (hb:smallS b):Ev (fun k=>bN.f k a b) ((diffR a b).1.map ofX,(diffR a b).2):=by
  unfold bN.f diffR
  refine Ev.bind (bcheck_f ha) (Q.Ev.ite (fun c=>?_) (fun c=>Q.Ev.ok ?_))
  · rw[if_pos c]
    refine Ev.bind (bcheck_f hb) (Q.Ev.ite (fun c2=>?_) (fun c2=>Q.Ev.ok ?_))
    · rw[if_pos c2]
      refine Q.Ev.ite (fun c3=>?_) (fun c3=>Q.Ev.ok ?_)
      · have e:a.length=b.length:=by omega
        rw[if_pos e]
        exact bdiff_l0 (chk_zero_S.1 c) (chk_zero_S.1 c2) e a.length 0 [] (by omega) (by omega) (by simp)
      rw[if_neg (show ¬ a.length=b.length by omega)]
      rfl
    rw[if_neg c2,chk_bad_S c2]
    rfl
  rw[if_neg c,chk_bad_S c]
  rfl
theorem flat_cells {β:Type} (g:CeT→List β) {t:Int} (hg: ∀ c,c.f0≠t→g c=[]): ∀ (s:List (List RwT)) (i:Int) (n:Nat) (hn:n < s.length),t=i+n→(cellsF i s).flatMap g=s[n].flatMap fun r=>g (rowC t r)
  | [],i,n,hn,_=>by simp at hn
  |l::s,i,n,hn,ht=>by
    simp only[cellsF]
    rw[List.flatMap_append]
    cases n with
    |zero=>
      have e:(cellsF (i+1) s).flatMap g=[] :=by
        rw[List.flatMap_eq_nil_iff]
        intro c hc
        obtain⟨j,_,h,_⟩:=(mem_cells s (i+1)).1 hc
        exact hg c (by omega)
      rw[e,List.append_nil,List.flatMap_map]
      rw[show i=t by omega]
      rfl
    |succ n=>
      have e:(l.map fun r=> (⟨i,r.f0,r.f1⟩:CeT)).flatMap g=[] :=by
        rw[List.flatMap_eq_nil_iff]
        intro c hc
        obtain⟨r,_,rfl⟩:=List.mem_map.1 hc
        exact hg _ (by simp only;omega)
      rw[e,List.nil_append,flat_cells g hg s (i+1) n (by simpa using hn) (by omega)]
      rfl
section
variable {a b:List (List RwT)} (ha:okS a) (hb:okS b) (hab:a.length=b.length)
include ha hb hab
def gA (b:List (List RwT)) (t:Nat) (c:CeT):List RoT:=if c.f0=(t:Int)then(goD1 (t:Int) (b.getD t []) ⟨c.f1,c.f2⟩).map toU else []
def gB (a:List (List RwT)) (t:Nat) (c:CeT):List RoT:=if c.f0=(t:Int)then(comeD (t:Int) (a.getD t []) ⟨c.f1,c.f2⟩).map toU else []
theorem rdiff_l2 {t:Nat} (ht:t < a.length) {R:List RoT × Int} {F:List RoT} (hR:Ev (fun k=>aA.l0 k F ((t+1:Nat):Int) (a.length:Int) (cellsF 0 a) (b.length:Int) (cellsF 0 b)) R) (d:Nat):
    ∀ (j:Nat) (acc:List RoT),(cellsF 0 b).length - j=d→j≤(cellsF 0 b).length→acc.length≤10000000+j→acc++((cellsF 0 b).drop j).flatMap (gB a t)=F→Ev (fun k=>aA.l2 k acc (t:Int) (j:Int) (a.length:Int) (cellsF 0 a) (b.length:Int) (cellsF 0 b)) R:=by
  have h8:=ha.1
  have hca:=small_cells ha.small;have hcb:=small_cells hb.small
  have hT:=ha.2 _ (List.getElem_mem ht)
  induction d with
  |zero=>
    intro j acc hd hj hl hF
    refine Ev.step (fun k=>by simp only[aA.l2];rfl) (Q.Ev.neg (by omega) ?_)
    rw[List.drop_eq_nil_of_le (by omega),List.flatMap_nil,List.append_nil] at hF
    rw[hF,wrap_eq (by omega) (by omega)]
    exact hR
  |succ d ih=>
    intro j acc hd hj hl hF
    have hj2:j < (cellsF 0 b).length:=by omega
    rw[drop_cons hj2,List.flatMap_cons,←List.append_assoc] at hF
    refine Ev.step (fun k=>by simp only[aA.l2];rfl) (Q.Ev.pos (by omega) (Q.Ev.pos (by omega) ?_))
    rw[rdC hj2,wrap_eq (x:=(j:Int)+1) (by omega) (by omega)]
    have skip:gB a t (cellsF 0 b)[j] =[]→Ev (fun k=>aA.l2 k acc (t:Int) ((j:Int)+1) (a.length:Int) (cellsF 0 a) (b.length:Int) (cellsF 0 b)) R:=fun q=>ih (j+1) acc (by omega) (by omega) (by omega) (by rw[q,List.append_nil] at hF;exact hF)
    have push: ∀ x:RoT,gB a t (cellsF 0 b)[j] =[x]→Ev (fun k=>if acc.length < 3518437208883 then aA.l2 k (acc++ [x]) (t:Int) ((j:Int)+1) (a.length:Int) (cellsF 0 a) (b.length:Int) (cellsF 0 b)else none) R:=fun x q=>Q.Ev.pos (by omega) (ih (j+1) (acc++ [x]) (by omega) (by omega) (by simp;omega) (by rw[q] at hF;exact hF))
    refine Q.Ev.ite (fun c=>?_) (fun c=>skip (if_neg c))
    have eg:gB a t (cellsF 0 b)[j] =(comeD (t:Int) a[t] ⟨(cellsF 0 b)[j].f1,(cellsF 0 b)[j].f2⟩).map toU:=by
      unfold gB
      rw[if_pos c,getD_S ht]
    refine Ev.bind (at_f (t:Int) (cellsF 0 b)[j].f1 (by omega)) ?_
    rcases at_cells ht hT.sort (cellsF 0 b)[j].f1 with⟨h1,h2⟩|⟨i,hi,h1,h2,h3⟩
    · rw[h1]
      refine Q.Ev.pos (by decide) (push _ ?_)
      rw[eg]
      unfold comeD
      rw[if_pos h2]
      rfl
    rw[h1]
    refine Q.Ev.neg (by omega) (Q.Ev.pos (by omega) (Q.Ev.pos (by omega) ?_))
    rw[rdC hi,h3]
    refine Q.Ev.ite (fun c2=>skip ?_) (fun c2=>push _ ?_)
    · rw[eg]
      unfold comeD
      rw[if_neg fun q=>q h2,if_neg fun q=>q (bytes_ext.1 c2)]
      rfl
    rw[eg]
    unfold comeD
    rw[if_neg fun q=>q h2,if_pos fun q=>c2 (bytes_ext.2 q)]
    rfl
theorem rdiff_l1 {t:Nat} (ht:t < a.length) {R:List RoT × Int} {F:List RoT} (hR:Ev (fun k=>aA.l2 k F (t:Int) 0 (a.length:Int) (cellsF 0 a) (b.length:Int) (cellsF 0 b)) R) (d:Nat):
    ∀ (j:Nat) (acc:List RoT),(cellsF 0 a).length - j=d→j≤(cellsF 0 a).length→acc.length≤5000000+j→acc++((cellsF 0 a).drop j).flatMap (gA b t)=F→Ev (fun k=>aA.l1 k acc (t:Int) (j:Int) (a.length:Int) (cellsF 0 a) (b.length:Int) (cellsF 0 b)) R:=by
  have h8:=ha.1
  have hca:=small_cells ha.small;have hcb:=small_cells hb.small
  have htb:t < b.length:=by omega
  have hT:=hb.2 _ (List.getElem_mem htb)
  induction d with
  |zero=>
    intro j acc hd hj hl hF
    refine Ev.step (fun k=>by simp only[aA.l1];rfl) (Q.Ev.neg (by omega) ?_)
    rw[List.drop_eq_nil_of_le (by omega),List.flatMap_nil,List.append_nil] at hF
    rw[hF]
    exact hR
  |succ d ih=>
    intro j acc hd hj hl hF
    have hj2:j < (cellsF 0 a).length:=by omega
    rw[drop_cons hj2,List.flatMap_cons,←List.append_assoc] at hF
    refine Ev.step (fun k=>by simp only[aA.l1];rfl) (Q.Ev.pos (by omega) (Q.Ev.pos (by omega) ?_))
    rw[rdC hj2,wrap_eq (x:=(j:Int)+1) (by omega) (by omega)]
    have skip:gA b t (cellsF 0 a)[j] =[]→Ev (fun k=>aA.l1 k acc (t:Int) ((j:Int)+1) (a.length:Int) (cellsF 0 a) (b.length:Int) (cellsF 0 b)) R:=fun q=>ih (j+1) acc (by omega) (by omega) (by omega) (by rw[q,List.append_nil] at hF;exact hF)
    refine Q.Ev.ite (fun c=>?_) (fun c=>skip (if_neg c))
    have eg:gA b t (cellsF 0 a)[j] =(goD1 (t:Int) b[t] ⟨(cellsF 0 a)[j].f1,(cellsF 0 a)[j].f2⟩).map toU:=by
      unfold gA
      rw[if_pos c,getD_S htb]
    refine Ev.bind (at_f (t:Int) (cellsF 0 a)[j].f1 (by omega)) ?_
    rcases at_cells htb hT.sort (cellsF 0 a)[j].f1 with⟨h1,h2⟩|⟨i,hi,h1,h2,h3⟩
    · rw[h1]
      have e1:gA b t (cellsF 0 a)[j] =[⟨(t:Int),3,(cellsF 0 a)[j].f1,⟨#[]⟩⟩] :=by
        rw[eg]
        unfold goD1
        rw[if_pos h2]
        rfl
      exact Q.Ev.pos (by decide) (Q.Ev.pos (by omega) (ih (j+1) _ (by omega) (by omega) (by simp;omega) (by rw[e1] at hF;exact hF)))
    rw[h1]
    refine Q.Ev.neg (by omega) (skip ?_)
    rw[eg]
    unfold goD1
    rw[if_neg fun q=>q h2]
    rfl
theorem rdiff_l0 (d:Nat): ∀ (t:Nat) (acc:List OpX),a.length - t=d→t≤a.length→acc.length≤1000 * t→Ev (fun k=>aA.l0 k (acc.map toU) (t:Int) (a.length:Int) (cellsF 0 a) (b.length:Int) (cellsF 0 b)) ((acc++diffS (t:Int) (a.drop t) (b.drop t)).map toU,0):=by
  have h8:=ha.1
  induction d with
  |zero=>
    intro t acc hd hi hl
    refine Ev.step (fun k=>by simp only[aA.l0];rfl) (Q.Ev.neg (by omega) (Q.Ev.ok ?_))
    rw[List.drop_eq_nil_of_le (by omega)]
    simp[diffS]
  |succ d ih=>
    intro t acc hd hi hl
    have ht:t < a.length:=by omega
    have htb:t < b.length:=by omega
    have hA:=ha.2 _ (List.getElem_mem ht)
    have hB:=hb.2 _ (List.getElem_mem htb)
    have hz:=between_len (t:Int) a[t] b[t]
    have hl1:=flat_len (goD1_len (t:Int) b[t]) a[t]
    have:=hA.1
    have:=hB.1
    have eA:(cellsF 0 a).flatMap (gA b t)=(goesD (t:Int) a[t] b[t]).map toU:=by
      rw[flat_cells (gA b t) (t:=(t:Int)) (fun c hc=>if_neg hc) a 0 t ht (by omega),goesD_flat,List.map_flatMap]
      congr 1
      funext r
      unfold gA
      rw[if_pos (show(rowC (t:Int) r).f0=(t:Int)from rfl),getD_S htb]
      rfl
    have eB:(cellsF 0 b).flatMap (gB a t)=(b[t].flatMap (comeD (t:Int) a[t])).map toU:=by
      rw[flat_cells (gB a t) (t:=(t:Int)) (fun c hc=>if_neg hc) b 0 t htb (by omega),List.map_flatMap]
      congr 1
      funext r
      unfold gB
      rw[if_pos (show(rowC (t:Int) r).f0=(t:Int)from rfl),getD_S ht]
      rfl
    refine Ev.step (fun k=>by simp only[aA.l0];rfl) (Q.Ev.pos (by omega) ?_)
    rw[drop_cons ht,drop_cons htb]
    simp only[diffS]
    have h0:=ih (t+1) (acc++betweenS (t:Int) a[t] b[t]) (by omega) (by omega) (by rw[List.length_append];omega)
    rw[List.append_assoc] at h0
    have h2:=rdiff_l2 ha hb hab ht h0 (cellsF 0 b).length 0 (acc.map toU++(goesD (t:Int) a[t] b[t]).map toU) (by omega) (by omega) (by rw[List.length_append,List.length_map,List.length_map,goesD_flat];omega) (by
      rw[List.drop_zero,eB]
      unfold betweenS
      simp only[List.map_append,List.append_assoc])
    exact rdiff_l1 ha hb hab ht h2 (cellsF 0 a).length 0 (acc.map toU) (by omega) (by omega) (by rw[List.length_map];omega) (by rw[List.drop_zero,eA])
end
theorem rdiff_f {a b:List (List RwT)} (ha:smallS a) (hb:smallS b):Ev (fun k=>aA.f k (a.length:Int) (cellsF 0 a) (b.length:Int) (cellsF 0 b)) ((diffR a b).1.map toU,(diffR a b).2):=by
  unfold aA.f diffR
  have j0t:Ev (fun k=>aA.j0 k true (a.length:Int) (cellsF 0 a) (b.length:Int) (cellsF 0 b)) ([],40):=Ev.step (fun k=>by simp only[aA.j0];rfl) (Q.Ev.pos (show(true:Bool)=true from rfl) (Q.Ev.ok rfl))
  refine Ev.bind (rcheck_f ha) (Q.Ev.ite (fun c=>?_) (fun c=>?_))
  · rw[if_pos c]
    refine Ev.bind (rcheck_f hb) ?_
    by_cases c2:chkS b=0
    · rw[if_pos c2,bne_eq_false_iff_eq.2 c2]
      refine Ev.step (fun k=>by simp only[aA.j0];rfl) (Q.Ev.neg Bool.false_ne_true (Q.Ev.ite (fun c3=>?_) (fun c3=>Q.Ev.ok ?_)))
      · have e:a.length=b.length:=by omega
        rw[if_pos e]
        exact rdiff_l0 (chk_zero_S.1 c) (chk_zero_S.1 c2) e a.length 0 [] (by omega) (by omega) (by simp)
      rw[if_neg (show ¬ a.length=b.length by omega)]
      rfl
    rw[if_neg c2,bne_iff_ne.2 c2]
    exact j0t
  rw[if_neg c]
  exact j0t
end Go.Proofs.Ytdpcgigjlcpofaa.Q
namespace Go.Proofs.Ytdpcgigjlcpofaa.Pure
open Go.RowKit Ytdpcgigjlcpofaa.F Ytdpcgigjlcpofaa.Q YtdpcgigjlcpofaaW.PrintWords YtdpcgigjlcpofaaW.PrintLast
theorem diff_len2 {a b:List (List RwT)} :(diffR a b).1.length≤1000:=by
  unfold diffR
  by_cases q1:chkS a=0
  · rw[if_pos q1]
    by_cases q2:chkS b=0
    · rw[if_pos q2]
      by_cases q3:a.length=b.length
      · rw[if_pos q3]
        have oa:=chk_zero_S.1 q1
        have:=diff_len a b 0 oa.2 (chk_zero_S.1 q2).2
        have:=oa.1
        simp only
        omega
      rw[if_neg q3];simp
    rw[if_neg q2];simp
  rw[if_neg q1];simp
theorem BatchCodes:aH.Pure:=by
  intro a b x ha hb hx
  refine Ev.rounds (r:=true) ?_
  have haw:bF.f=some true:=rfl
  have aw:Ev (fun _:Nat=> (bF.f).bind fun t=>if t=true then some true else some false) true:=Q.Ev.bindc haw (Q.Ev.pos rfl (Q.Ev.const rfl))
  have j0t: ∀ u:Bool,u=true→Ev (fun k=>aH.j0 k x u a b) true:=fun u hu=>Ev.step (fun k=>by simp only[aH.j0];rfl) (Q.Ev.pos hu aw)
  unfold aH.f
  refine Ev.bind (few_f a) (Q.Ev.ite (fun c1=>Ev.bind (few_f b) (Q.Ev.ite (fun c2=>?_) (fun c2=>j0t true rfl))) (fun c1=>j0t true rfl))
  by_cases c3:(x.size:Int) > 5000
  · exact j0t _ (decide_eq_true c3)
  rw[decide_eq_false c3]
  have hA:=few_small c1
  have hB:=few_small c2
  have hxs:x.size < 1099511627776:=by omega
  have hl:(diffR a b).1.length≤1000:=diff_len2
  refine Ev.step (fun k=>by simp only[aH.j0];rfl) (Q.Ev.neg (by decide) (Ev.bind (bput_f hA) (Ev.bind (of_f hA) (Ev.bind (rput_f hA) (Ev.bind (btake_f hxs) (Ev.bind (rtake_f hxs) (Ev.bind (bdiff_f hA hB) (Ev.bind (of_f hA) (Ev.bind (of_f hB) (Ev.bind (rdiff_f hA hB) ?_))))))))))
  refine Q.Ev.pos rfl (Q.Ev.pos rfl (Ev.bind (same_f (takeB_small x) rfl rfl) (Q.Ev.pos rfl (Q.Ev.pos rfl (Ev.bind (ops_f (by rw[List.length_map];omega)) (Ev.bind (same_ops_f (by simp only[List.length_map];omega) ?_) (Q.Ev.pos rfl (Q.Ev.pos rfl aw))))))))
  rw[List.map_map]
  rfl
end Go.Proofs.Ytdpcgigjlcpofaa.Pure
namespace Go.Proofs.YtdpcgigjlcpofaaX
open Go.RowKit YtdpcgigjlcpofaaW.PrintWords YtdpcgigjlcpofaaW.PrintLast YtdpcgigjlcpofaaW.PrintMore
def Opens {α:Type} (P:Program) (t:TypeId) (k:Kd α) (Ok:α→Prop):Prop:=
  ∀ {H:Type} {enc:TypeId × Value→H} {w:World} {base:Nat} {spare:Nat→Bool} {held:Bool} {fuel:Nat} {cs:List Value} {x:DataW H × List MemPlace},
    DataW.trod enc P w base spare held fuel t cs=some x→∃ a:α,k.K w a cs∧Ok a
theorem Opens.int {P:Program} {t:TypeId} {k:IntKind} (ht:P.underlying t=some (.int k)):Opens P t (Kd.int k) (fun a=> (Lit.int k a).wf=true):=by
  intro H enc w base spare held fuel cs x h
  obtain⟨n,rfl,_,hw⟩:=DataW.trod_int ht h
  exact⟨n,rfl,hw⟩
theorem Opens.bool {P:Program} {t:TypeId} (ht:P.underlying t=some .bool):Opens P t Kd.bool (fun _=>True):=by
  intro H enc w base spare held fuel cs x h
  obtain⟨n,rfl,_⟩:=DataW.trod_bool ht h
  exact⟨n,rfl,trivial⟩
theorem Opens.string {P:Program} {t:TypeId} (ht:P.underlying t=some .string):Opens P t Kd.string (fun a=>a.size≤maxLen):=by
  intro H enc w base spare held fuel cs x h
  obtain⟨s,rfl,_,hw⟩:=DataW.trod_string ht h
  exact⟨s,rfl,hw⟩
theorem list_of {α:Type} {p:Nat→α→Prop} : ∀ n,(∀ i,i < n→∃ a,p i a)→∃ xs:List α,xs.length=n∧∀ i a,xs[i]? =some a→p i a
  |0,_=> ⟨[],rfl,fun i a h=>by simp at h⟩
  |n+1,h=>by
    obtain⟨xs,hl,hx⟩:=list_of n (fun i hi=>h i (by omega))
    obtain⟨a,ha⟩:=h n (by omega)
    refine⟨xs++ [a],by simp[hl],fun i b hb=>?_⟩
    rcases Nat.lt_or_ge i xs.length with h1|h1
    · rw[List.getElem?_append_left h1] at hb
      exact hx i b hb
    rw[List.getElem?_append_right h1] at hb
    have h2:i - xs.length=0:=by
      have:=(List.getElem?_eq_some_iff.1 hb).1
      simp at this;omega
    rw[h2] at hb
    have:a=b:=by simpa using hb
    subst this
    have:i=n:=by omega
    rw[this];exact ha
theorem Opens.slice {α:Type} {P:Program} {t e:TypeId} {k:Kd α} {Ok:α→Prop} (ht:P.underlying t=some (.slice e)) (hc:P.cellsOf e=k.sz) (h:Opens P e k Ok):
    Opens P t (Kd.slice e k) (fun xs=>xs.length≤maxLen∧∀ x ∈ xs,Ok x):=by
  intro H enc w base spare held fuel cs x hx
  rcases Go.Deep.open_slice ht hx with⟨rfl,rfl⟩|⟨a,len,cap,m,n,D,Pl,rfl,hb,hl,hm,hmm,rfl,hel⟩
  · exact⟨[],⟨none,0,rfl,by simp,rfl,by simp,fun h=>absurd h (by simp)⟩,by simp[maxLen],by simp⟩
  have hlm:len≤m:=by rw[hmm];split <;> omega
  obtain⟨xs,hlen,hxs⟩:=list_of (p:=fun i (a':α)=> ∃ cs',w.cells? base (a.add (i * P.cellsOf e)) (P.cellsOf e)=some cs'∧k.K w a' cs'∧Ok a') len (fun i hi=>by
    obtain⟨cs',h1,h2⟩:=hel i (by omega)
    obtain⟨a',h3,h4⟩:=h h2
    exact⟨a',cs',h1,h3,h4⟩)
  have hlm2:len≤maxLen:=by omega
  refine⟨xs,⟨some a,cap,by rw[hlen],by rw[hlen];exact hl,rfl,by rw[hlen];simpa [maxLen] using hlm2,fun _=> ⟨a,rfl,fun j p hj=>?_⟩⟩,by rw[hlen];exact hlm2,fun y hy=>?_⟩
  · obtain⟨cs',h1,h2,_⟩:=hxs j p hj
    refine⟨cs',k.K_len h2,h2,fun i u hu=>?_⟩
    obtain⟨_,_,h3⟩:=World.cells?_some h1
    have h4:=h3 i (by have:=(List.getElem?_eq_some_iff.1 hu).1;have:=k.K_len h2;omega)
    rw[←hc,←Go.Proofs.YtdpcgigjlcpofaaW.PrintWords.add_add]
    rw[←hu];exact h4
  obtain⟨i,hi,rfl⟩:=List.mem_iff_getElem.1 hy
  obtain⟨_,_,_,h3⟩:=hxs i _ (List.getElem?_eq_getElem hi)
  exact h3
theorem field_reads {H:Type} {enc:TypeId × Value→H} {P:Program} {w:World} {base:Nat} {spare:Nat→Bool} {held:Bool} {fuel:Nat} {t:TypeId} {cs:List Value} {x:DataW H × List MemPlace} {fs:Array Field}
    (ht:P.underlying t=some (.struct fs)) (h:DataW.trod enc P w base spare held fuel t cs=some x):
    cs.length=P.cellsOf t∧∃ n,∀ (i:Nat) (f:Field),fs[i]? =some f→∃ y,DataW.trod enc P w base spare held n f.type ((cs.drop f.offset).take (P.cellsOf f.type))=some y:=by
  obtain⟨xs,n,_,_,hl,hx,hf⟩:=DataW.trod_struct ht h
  refine⟨hl,n,fun i f hif=>?_⟩
  rw[hf i f hif]
  have hi:=(Array.getElem?_eq_some_iff.1 hif).1
  exact⟨_,List.getElem?_eq_getElem (by rw[hx];exact hi)⟩
theorem band {a b:Bool} (h1:a=true) (h2:b=true):(a&&b)=true:=by rw[h1,h2];rfl
theorem mayEnter_of {P:Program} {L c:List Char} {rest:List (List Char)} (h:P.initOrder.toList=L) (h1:behindMainWord (wordsSigns L)=c::rest) (h2:((stripLifts liftWords (c::rest)).2.head? ==some "cut".toList)=true) (h3:P.laysLater=false) (h4:P.bearsReflect=false) (h5:(stripLifts liftWords (c::rest)).1=[]) (h6:P.doorFits [] =true):P.mayEnter=true:=by
  unfold Program.mayEnter
  rw[h,h1]
  dsimp only
  rw[h2,h3,h4,h5,h6]
  simp
theorem make_of {P:Program} {L:List Char} {rest:List (List Char)} (h:P.initOrder.toList=L) (h1:behindMainWord (wordsSigns L)= "cut".toList::rest):P.make=some .cut:=by
  unfold Program.make
  rw[h,h1]
  dsimp only
  rw[if_neg (by decide),if_pos (by simp)]
end Go.Proofs.YtdpcgigjlcpofaaX
set_option maxRecDepth 10000
namespace Go.Proofs.Ytdpcgigjlcpofaa.Join
open YtdpcgigjlcpofaaX
def initSigns:List Char:=['h','a','r','n','e','s','s',' ','c','e','c','b','8','6','d','2','2','8','2','f','6','6','6','7','a','3','b','2','0','d','3','e','a','d','2','c','f','e','3','7','7','5','b','7','b','3','d','0','c','6','0','2','6','1','5','c','f','5','2','5','6','6','c','6','0','2','7','8','5','c','9','9',' ','c','u','t',' ','a','t',' ','b','a','c','k','h','a','u','l','/','b','a','c','k','h','a','u','l','l','a','w','0','6','.','S','t','r','i','c','t','F','i','r','s','t',' ','b','a','c','k','h','a','u','l','/','b','a','c','k','h','a','u','l','l','a','w','1','4','.','I','n','d','e','x','T','e','l','l','s',' ','b','a','c','k','h','a','u','l','/','b','a','c','k','h','a','u','l','l','a','w','1','4','.','I','n','d','e','x','A','d','d','s',' ','b','a','c','k','h','a','u','l','/','b','a','c','k','h','a','u','l','l','a','w','1','4','.','I','n','d','e','x','T','u','r','n','s',' ','b','a','c','k','h','a','u','l','/','b','a','c','k','h','a','u','l','l','a','w','1','4','.','I','n','d','e','x','W','h','o','l','e',' ','b','a','c','k','h','a','u','l','/','b','a','c','k','h','a','u','l','l','a','w','1','5','.','B','a','t','c','h','A','p','p','l','i','e','s',' ','b','a','c','k','h','a','u','l','/','b','a','c','k','h','a','u','l','l','a','w','1','5','.','B','a','t','c','h','C','o','d','e','s',' ','b','a','c','k','h','a','u','l','/','b','a','c','k','h','a','u','l','l','a','w','1','5','.','B','a','t','c','h','W','h','o','l','e',' ','b','a','c','k','h','a','u','l','/','b','a','c','k','h','a','u','l','l','a','w','1','5','.','B','a','t','c','h','U','n','d','o',' ','b','a','c','k','h','a','u','l','/','b','a','c','k','h','a','u','l','l','a','w','1','5','.','B','a','t','c','h','D','i','f','f']
theorem initText:Try.pinned.checked.prog.initOrder=String.ofList initSigns:=by kernel_rfl
theorem initList:Try.pinned.checked.prog.initOrder.toList=initSigns:=(congrArg String.toList initText).trans String.toList_ofList
theorem mayEnter_is:Try.pinned.checked.prog.mayEnter=true:=
  mayEnter_of (L:=initSigns) (c:= "cut".toList) (rest:=(behindMainWord (wordsSigns initSigns)).tail) initList (by kernel_rfl) (by kernel_rfl) (by kernel_rfl) (by kernel_rfl) (by kernel_rfl) (by kernel_rfl)
theorem make_is:Try.pinned.checked.prog.make=some .cut:=
  make_of (L:=initSigns) (rest:=(behindMainWord (wordsSigns initSigns)).tail) initList (by kernel_rfl)
theorem lifts_is:Try.pinned.checked.prog.liftsFinal=false:=by
  unfold Program.liftsFinal Program.headLifts
  rw[initList]
  kernel_rfl
end Go.Proofs.Ytdpcgigjlcpofaa.Join
namespace Go.Proofs.Ytdpcgigjlcpofaa.batchCodes
open Go.ChangeShapes Go.WideShapes Go.ChangeAt Go.RowKit YtdpcgigjlcpofaaX Ytdpcgigjlcpofaa.F YtdpcgigjlcpofaaW.PrintWords YtdpcgigjlcpofaaW.PrintLast YtdpcgigjlcpofaaW.PrintMore
open Go.ChangeMaps (open_string shut_string)
theorem own:ownKnob Try.prog.godebug=none:=by kernel_rfl
theorem laidOut:laidOutB Try.prog=true:=by kernel_rfl
theorem opens_k164:Opens Try.prog 164 k164 (fun x=> ((Lit.int .i64 x.f0).wf=true∧x.f1.size≤maxLen)):=by
  intro H enc w base spare held fuel cs x h
  obtain⟨hl,n,hf⟩:=field_reads Try.underlying164 h
  have hl2:cs.length=2:=hl.trans (by kernel_rfl)
  match cs,hl2 with
  | [c0,c1],_=>
    obtain⟨y0,h0⟩:=hf 0 _ rfl
    have e0:Try.prog.cellsOf 3=1:=by kernel_rfl
    (try dsimp only at h0)
    (try simp only[e0] at h0)
    obtain⟨a0,k0,O⟩:=(Opens.int Try.underlying3) h0
    have k0':((Kd.int .i64)).K w a0 [c0] :=k0
    obtain⟨y1,h1⟩:=hf 1 _ rfl
    have e1:Try.prog.cellsOf 9=1:=by kernel_rfl
    (try dsimp only at h1)
    (try simp only[e1] at h1)
    obtain⟨a1,k1,J⟩:=(Opens.string Try.underlying9) h1
    have k1':(Kd.string).K w a1 [c1] :=k1
    exact⟨(⟨a0,a1⟩:S164),⟨[c0],[c1],rfl,k0',k1'⟩,⟨O,J⟩⟩
theorem opens_k75:Opens Try.prog 75 k75 (fun x=> ((x.f0.length≤maxLen∧∀ y ∈ x.f0,(y.length≤maxLen∧∀ x ∈ y,((Lit.int .i64 x.f0).wf=true∧x.f1.size≤maxLen))))):=by
  intro H enc w base spare held fuel cs x h
  obtain⟨hl,n,hf⟩:=field_reads Try.underlying75 h
  have hl2:cs.length=1:=hl.trans (by kernel_rfl)
  match cs,hl2 with
  | [c0],_=>
    obtain⟨y0,h0⟩:=hf 0 _ rfl
    have e0:Try.prog.cellsOf 73=1:=by kernel_rfl
    (try dsimp only at h0)
    (try simp only[e0] at h0)
    obtain⟨a0,k0,O⟩:=(Opens.slice Try.underlying73 (by kernel_rfl) (Opens.slice Try.underlying162 (by kernel_rfl) opens_k164)) h0
    have k0':((Kd.slice 162 (Kd.slice 164 k164))).K w a0 [c0] :=k0
    exact⟨(⟨a0⟩:S75),k0',O⟩
theorem lifted (os:Os) (started:os.Started) (H:Type) (enc:TypeId × Value→H):
    ReturnsInHanded {} Try.checked os 9 .any (Rows.batchCodesSpec.pre6 enc Try.prog Try.f9 Rows.batchCodesRow.domain false) (Rows.batchCodesSpec.post enc Try.prog Try.f9 false true false false):=by
  refine returnsInHanded_of_change_sized (C:=Try.checked) own started (by kernel_rfl) Try.func9
    (ChangeSpec.witness6 (enc:=enc) (C:=Try.checked) false ⟨#[],#[.agg #[.slice none 0 0],.agg #[.slice none 0 0],.string ByteArray.empty],[]⟩ 8 (by kernel_rfl) (by kernel_rfl) (by kernel_rfl) (by kernel_rfl)) ?_
  intro W base args ds gs before hval0 hW hcnd hsz0 _
  have hval: ∀ (j:Nat) t v,Try.f9.params[j]? =some t→args[j]? =some v→Value.okWide Try.prog W .any base t v:=hval0
  have hW':=hW
  obtain⟨p,q,hA0,hV,rfl,hfz,hnd⟩:=hW
  have hA:DataW.TrodAll enc Try.prog W 0 (fun _=>true) true Try.f9.params.toList args.toList ds p:=hA0
  rw[Try.params9] at hA hval
  obtain⟨v0,vs0,d0,ds0,p0,q0,hargs,rfl,rfl,h0,r0⟩:=trodAll_cons hA
  obtain⟨v1,vs1,d1,ds1,p1,q1,rfl,rfl,rfl,h1,r1⟩:=trodAll_cons r0
  obtain⟨v2,vs2,d2,ds2,p2,q2,rfl,rfl,rfl,h2,r2⟩:=trodAll_cons r1
  obtain⟨rfl,rfl,rfl⟩:=trodAll_nil r2
  obtain rfl:args= #[v0,v1,v2] :=by cases args;simp_all
  obtain⟨rfl,rfl⟩:=trodVars_none hV
  have k0:=h0
  have lt0: ∀ x ∈ p0,x.block < W.heap.size:=by obtain⟨m,hm⟩:=k0;exact DataW.trod_lt m _ _ _ hm
  obtain⟨cs0,rfl,_⟩:=okWide_struct Try.underlying75 (hval 0 75 v0 rfl rfl)
  obtain⟨f0,hf0⟩:=h0
  obtain⟨x0,hk0,ho0⟩:=opens_k75 hf0
  obtain⟨A0_0,c0_0,he0,hl0_0,hc0_0⟩:=k75_open hk0
  obtain rfl:cs0=_:=Array.toList_inj.1 (he0.trans (List.toList_toArray).symm)
  have k1:=h1
  have lt1: ∀ x ∈ p1,x.block < W.heap.size:=by obtain⟨m,hm⟩:=k1;exact DataW.trod_lt m _ _ _ hm
  obtain⟨cs1,rfl,_⟩:=okWide_struct Try.underlying75 (hval 1 75 v1 rfl rfl)
  obtain⟨f1,hf1⟩:=h1
  obtain⟨x1,hk1,ho1⟩:=opens_k75 hf1
  obtain⟨A1_0,c1_0,he1,hl1_0,hc1_0⟩:=k75_open hk1
  obtain rfl:cs1=_:=Array.toList_inj.1 (he1.trans (List.toList_toArray).symm)
  have k2:=h2
  have lt2: ∀ x ∈ p2,x.block < W.heap.size:=by obtain⟨m,hm⟩:=k2;exact DataW.trod_lt m _ _ _ hm
  obtain⟨x2,rfl⟩:=okWide_string Try.underlying9 (hval 2 9 v2 rfl rfl)
  obtain⟨f2,hf2⟩:=h2
  obtain⟨z2,hk2,ho2⟩:=(Opens.string Try.underlying9) hf2
  obtain rfl:x2=z2:=by have:=hk2;injection this with this;injection this
  obtain⟨k,h⟩: ∃ k,aH.f k x0.f0 x1.f0 x2=some true:=Pure.BatchCodes x0.f0 x1.f0 x2 ho0 ho1 ho2
  refine(aH.calls k _ _ x0.f0 _ _ x1.f0 x2 W hc0_0 hl0_0 hc1_0 hl1_0 h).mono fun e W' hq=>?_
  obtain⟨he,bel0⟩:=hq
  have bel:Below W.heap.size W W':=bel0
  subst he
  exact⟨_,rfl,_,_,_,[],_,[],hW',trodAll_mk1 (shut_bool Try.underlying4 _),(trodAll_cons_mk (Below.trod laidOut (by kernel_rfl) (of_decide_eq_true (by kernel_rfl)) k0 bel lt0) (trodAll_cons_mk (Below.trod laidOut (by kernel_rfl) (of_decide_eq_true (by kernel_rfl)) k1 bel lt1) (trodAll_cons_mk (Below.trod laidOut (by kernel_rfl) (of_decide_eq_true (by kernel_rfl)) k2 bel lt2) trodAll_mk0))),rfl,bel.frame _,fun h=>by cases h⟩
theorem closed_:joinedFacts Try.pinned.checked.prog 9 Try.f9 Rows.batchCodesSpec Rows.batchCodesRow=true:=by
  unfold joinedFacts
  repeat' (with_reducible apply band)
  any_goals with_reducible exact Join.mayEnter_is
  any_goals (rw[Join.make_is];kernel_rfl)
  any_goals (rw[Join.lifts_is];kernel_rfl)
  all_goals kernel_rfl
theorem over:Rows.batchCodesRow.holds Try.pinned (OpenSpec.ofChange Rows.batchCodesSpec):=
  OpenClaim.holds_of_wide 9 Try.f9 rfl rfl rfl rfl rfl rfl rfl ⟨rfl,rfl,rfl,rfl,rfl⟩ rfl rfl rfl rfl rfl (by kernel_rfl) Try.func9 closed_
    (of_decide_eq_true (by kernel_rfl)) (by unfold Func.isWrapper;first|(rw[if_pos (by decide+kernel)];kernel_rfl)|(rw[if_neg (by decide+kernel)];exact⟨rfl,rfl⟩))
    (fun os started H enc _=>lifted os started H enc)
theorem proved:Rows.BatchCodesSaid:=over
#print axioms proved
end Go.Proofs.Ytdpcgigjlcpofaa.batchCodes
namespace Go.Proofs.Ytdpcgigjlcpofaa
theorem batchCodes_holds:Rows.BatchCodesSaid:=batchCodes.proved
end Go.Proofs.Ytdpcgigjlcpofaa
