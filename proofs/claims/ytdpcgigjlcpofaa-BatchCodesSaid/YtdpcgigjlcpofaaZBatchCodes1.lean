-- by prune.py (own program),out of the print
import Derived.Below
import Derived.Deep.Draws
import Derived.Deep.AppendLies
import Derived.Maps.AppendAt
import Derived.OwnWalk
import Derived.Laws.BytesArg
import Derived.Laws.MakeOwn
import Derived.Laws.OwnMore
import Derived.Deep.OwnRows
import Derived.Tactics
import Derived.Lib.ConvBytes
import Derived.Laws.Slices
import Derived.WalkKit
import Derived.KernelRfl
import Derived.RowKit3
import Derived.Deep.LoopGhost
import Derived.Deep.QuietTactic
import Derived.BigQuiet
import Derived.WideLaws
import Derived.Deep.DeepCutAuto
import Derived.Deep.CutBlock
import Derived.Deep.RegionHeld3
import Derived.Laws.Rows
import Derived.Lib.AppendStr
import Derived.ArgAppend
import Derived.Laws.IdiomCopy
import Derived.RowKit
import Derived.OrdersHeld
import Derived.Laws.BitsLemmas
import Derived.Deep.RegionLawGrows
import Derived.Lib.SliceRun
import Derived.Test.YtdpcgigjlcpofaaProg
import Derived.Laws.StructEq
import Derived.Test.YtdpcgigjlcpofaaZBatchCodes0
set_option maxHeartbeats 8000000
set_option maxRecDepth 100000
set_option linter.unusedVariables false
set_option linter.unusedSimpArgs false
namespace Go.Proofs.YtdpcgigjlcpofaaX
open Go.RowKit Go.Proofs.YtdpcgigjlcpofaaW.PrintWords Go.Proofs.YtdpcgigjlcpofaaW.PrintLast Go.Proofs.YtdpcgigjlcpofaaW.PrintMore
def Flat {α:Type} (d:Kd α):Prop:= ∀ (w:World) (base:Nat) (ok:Nat→Prop) (x:α) (cs:List Value),d.K w x cs→d.M w base ok x cs
theorem C_cells {α:Type} {d:Kd α} {W:World} {ad:Addr} {n:Nat} {xs:List α} (h:d.C W (some ad) n xs):
    ∃ inner,Reps (d.K W) d.sz xs inner∧∀ j u,inner[j]? =some u→W.cell? (ad.add j)=some u:=ReadsRow.inner_ h
theorem one_of_reps {α:Type} {d:Kd α} {W:World} {xs:List α} {cs:List Value} (hs0:0 < d.sz) (h:Reps (d.K W) d.sz xs cs): ∀ u ∈ cs,u.oneCell'=true:=by
  intro u hu
  obtain⟨q,hq,rfl⟩:=List.mem_iff_getElem.1 hu
  have hql:q / d.sz < xs.length:=by
    rw[Nat.div_lt_iff_lt_mul hs0,←h.1]
    exact hq
  have h2:=h.2 (q / d.sz) _ (List.getElem?_eq_getElem hql)
  refine d.K_one h2 _ ?_
  have hlen:=d.K_len h2
  rw[List.mem_iff_getElem]
  have hmod:q % d.sz < d.sz:=Nat.mod_lt _ hs0
  refine⟨q % d.sz,by rw[hlen];exact hmod,?_⟩
  rw[List.getElem_take,List.getElem_drop]
  congr 1
  rw[Nat.mul_comm]
  exact Nat.div_add_mod q d.sz
theorem step_append_full {α:Type} {P:Program} {ops:Array Oper} {o:Oper} {a:Act} {W:World} {Kc:Act→World→Prop} {Q:Exit→Act→World→Prop} {E:Prop}
    (d:Kd α) (hflat:Flat d) (hgd:o.guard=none) (s x:Operand) (t e:TypeId) (z:Value) (bytes:Nat)
    (ho:o.op= .call { callee:= .builtin .append,args:= #[s,x],argTypes:= #[t,t] })
    (ht:P.underlying t=some (.slice e)) (hinfo:(P.info? e).map (fun i=> (i.zero,i.size,i.bytes))=some (some z,d.sz,bytes)) (hz:z.cells.size=d.sz) (hs0:0 < d.sz) (hb0:0 < bytes)
    (A:Option Addr) (n:Nat) (xs:List α) (hs:a.eval s= .slice A n n) (HC:d.C W A n xs)
    (ad:Addr) (m c:Nat) (ys:List α) (hx:a.eval x= .slice (some ad) m c) (HD:d.C W (some ad) m ys) (hm:0 < m)
    (hl:(xs.length+ys.length) * bytes≤140737488355328)
    (h: ∀ v1 w1,d.R e w1 W.heap.size (fun _=>True) v1 (xs++ys)→Below W.heap.size W w1→Kc (a.put o.dst v1) w1):
    if Region.wanted o (yielded ops a.tmps)=true then Oper.wp P o a W Kc Q else E:=by
  obtain⟨i0,hi,hzz⟩:=Option.map_eq_some_iff.1 hinfo
  simp only[Prod.mk.injEq] at hzz
  obtain⟨hz0,hz1,hz2⟩:=hzz
  have hxn:xs.length=n:=HC.1
  have hyn:ys.length=m:=HD.1
  have hlen:n+m≤140737488355328:=by rw[←hxn,←hyn];exact Nat.le_trans (Nat.le_mul_of_pos_right _ hb0) hl
  obtain⟨news,hnr,hnc⟩:=C_cells HD
  have hone:=one_of_reps hs0 hnr
  have hold: ∃ olds,Reps (d.K W) d.sz xs olds∧∀ b,A=some b→∀ j u,olds[j]? =some u→W.cell? (b.add j)=some u:=by
    rcases A with _|b
    · have h0:n=0:=by
        rcases Nat.eq_zero_or_pos n with h0|h0
        · exact h0
        obtain⟨ad,h,_⟩:=HC.2.2 h0
        cases h
      subst h0
      obtain rfl:xs=[] :=List.eq_nil_of_length_eq_zero hxn
      exact⟨[],Reps.none _ _,fun b hb=>by cases hb⟩
    obtain⟨olds,h1,h2⟩:=C_cells HC
    exact⟨olds,h1,fun b hb=>by injection hb with hb;subst hb;exact h2⟩
  obtain⟨olds,hor,hoc⟩:=hold
  refine step_append_grows hgd s x t ho e i0 z d.sz bytes ht hi hz0 hz1 hz2 hz hs0 A n n olds hs (fun hA=>?_) (by rw[hor.1,hxn]) hoc ad m c news hx (by rw[hnr.1,hyn]) hnc hone (by omega) (by simp only[maxLen];omega) (by rw[←hxn,←hyn];exact hl) ?_
  · subst hA
    rcases Nat.eq_zero_or_pos n with h0|h0
    · exact⟨h0,h0⟩
    obtain⟨ad,h,_⟩:=HC.2.2 h0
    cases h
  intro v1 w1 hown hg
  have hbl:Below W.heap.size W w1:=(Below.refl _ _).grown hg (Nat.le_refl _) (fun k hk=>by cases hk)
  refine h v1 w1 ⟨fun _ _=>trivial,olds++news,by rw[List.length_append,hxn,hyn];exact hown,?_⟩ hbl
  have hR:Reps (d.K w1) d.sz (xs++ys) (olds++news):=(Kd.reps_append hor hnr).imp_ (fun p cs hp=>d.K_below hbl hp)
  exact hR.imp_ (fun p cs hp=>hflat _ _ _ _ _ hp)
theorem cut_full {P:Program} (t e:TypeId) (kl kh:IntKind) {i:TypeInfo} (ht:P.underlying t=some (.slice e)) (hi:P.info? e=some i) (A:Option Addr) (len c n:Nat) (hn:n≤len) (hc:len≤c):
    ∀ W,(Instr.slice t (.slice A len c) none (some (.int kl (n:Int))) (some (.int kh (n:Int)))).run P W= .ok (.slice A n n) W:=by
  intro W
  have hel:P.elem t=e:=by simp[Program.elem,ht]
  have ha:(A.map fun x=>x.add 0)=A:=by cases A <;> simp[Addr.add]
  rw[run_slice_hm W t A len c (by rw[hel];exact ht) kl kh n n (by omega) (by omega) (by omega),hel]
  simp[sizeOf,typeInfo,hi,sliced,Result.andThen,ha]
theorem cut_from {P:Program} (t e:TypeId) (kl:IntKind) {i:TypeInfo} (ht:P.underlying t=some (.slice e)) (hi:P.info? e=some i) (size:Nat) (hsz:i.size=size) (A:Option Addr) (len c:Nat) (x:Int) (n:Nat) (hx:x=n) (hn:n≤len) (hc:len≤c):
    ∀ W,(Instr.slice t (.slice A len c) (some (.int kl x)) none none).run P W= .ok (.slice (if c=n then A else A.map (·.add (n * size))) (len - n) (c - n)) W:=by
  intro W
  subst hx
  have hel:P.elem t=e:=by simp[Program.elem,ht]
  rw[run_slice_l W t A len c (by rw[hel];exact ht) kl n (by omega) (by omega),hel]
  simp[sizeOf,typeInfo,hi,hsz,sliced,Result.andThen]
theorem C_lit1 {α:Type} {d:Kd α} {w:World} {p:α} {cs:List Value} {e:Nat} (hp:d.K w p cs):d.C (w.alloc (.cells cs.toArray e)) (some ⟨w.heap.size,0,none⟩) 1 [p] :=by
  refine⟨rfl,by decide,fun _=> ⟨_,rfl,fun j q hj=>?_⟩⟩
  have h0:j=0:=by
    have:=(List.getElem?_eq_some_iff.1 hj).1
    simp at this
    omega
  subst h0
  have hq:p=q:=by simpa using hj
  subst hq
  have hb:Below w.heap.size w (w.alloc (.cells cs.toArray e)):=below_alloc (Below.refl _ _) _
  refine⟨cs,d.K_len hp,d.K_below hb hp,fun i u hu=>?_⟩
  have ho:=World.ownsRow_lit (base:=0) (e:=e) (size:=d.sz) w cs.toArray 1 (Nat.zero_le _) (by decide) (by simpa using d.K_len hp)
  have hc:=ho.cells (g:=w.heap.size) rfl i u (by simpa using hu)
  have hz:(0:Nat) * d.sz+i=i:=by omega
  rw[hz]
  exact hc
theorem R_empty_lit {α:Type} (d:Kd α) (e:Nat) (w:World):d.R e (w.alloc (.cells #[] e)) w.heap.size (fun _=>True) (.slice (some ⟨w.heap.size,0,none⟩) 0 0) [] :=by
  have ho:=World.ownsRow_lit (base:=w.heap.size) (e:=e) (size:=d.sz) w #[] 0 (Nat.le_refl _) (by decide) (by simp)
  exact⟨fun _ _=>trivial,[],by simpa using ho,Reps.none _ _⟩
theorem x_less_cons (a b:UInt8) (x y:List UInt8):Op.bytesLess (a::x) (b::y)=true↔a.toNat < b.toNat∨(a=b∧Op.bytesLess x y=true):=by
  simp only[Op.bytesLess,Bool.or_eq_true,Bool.and_eq_true,decide_eq_true_eq,beq_iff_eq,UInt8.lt_iff_toNat_lt]
theorem x_less_or: ∀ (a b:List UInt8),(Op.bytesLess a b||a==b)=!(Op.bytesLess b a)
  | [],[] =>rfl
  | [],_::_=>rfl
  |_::_,[] =>by simp[Op.bytesLess]
  |a::x,b::y=>by
    have ih:=x_less_or x y
    rw[Bool.eq_iff_iff] at ih⊢
    rw[Bool.or_eq_true,Bool.not_eq_true',beq_iff_eq] at ih⊢
    rw[x_less_cons,←Bool.not_eq_true,x_less_cons]
    rw[←Bool.not_eq_true] at ih
    constructor
    · rintro((h|⟨rfl,h⟩)|h)
      · rintro(g|⟨g,_⟩)
        · omega
        subst g;omega
      · rintro(g|⟨_,g⟩)
        · omega
        exact ih.1 (.inl h) g
      injection h with h1 h2
      subst h1
      rintro(g|⟨_,g⟩)
      · omega
      exact ih.1 (.inr h2) g
    intro h
    by_cases h1:a.toNat < b.toNat
    · exact .inl (.inl h1)
    have h2:a=b:=by
      apply UInt8.toNat_inj.1
      have: ¬ b.toNat < a.toNat:=fun g=>h (.inl g)
      omega
    subst h2
    rcases ih.2 (fun g=>h (.inr ⟨rfl,g⟩))with g|g
    · exact .inl (.inr ⟨rfl,g⟩)
    exact .inr (by rw[g])
theorem str_geq (t:TypeId) (a b:ByteArray):binOp .geq t (.string a) (.string b)=pure (.bool !(Op.bytesLess a.toList b.toList)):=by simp[binOp,Op.stringOp]
theorem str_leq (t:TypeId) (a b:ByteArray):binOp .leq t (.string a) (.string b)=pure (.bool !(Op.bytesLess b.toList a.toList)):=by
  rw[←x_less_or];simp[binOp,Op.stringOp]
theorem str_gtr (t:TypeId) (a b:ByteArray):binOp .gtr t (.string a) (.string b)=pure (.bool (Op.bytesLess b.toList a.toList)):=by
  have h:=x_less_or a.toList b.toList
  have h2:(!(Op.bytesLess a.toList b.toList||a.toList==b.toList))=Op.bytesLess b.toList a.toList:=by rw[h];simp
  rw[←h2];simp[binOp,Op.stringOp]
end Go.Proofs.YtdpcgigjlcpofaaX
namespace Go.Proofs.Ytdpcgigjlcpofaa.F
open Go.RowKit Go.Proofs.YtdpcgigjlcpofaaX Go.Proofs.YtdpcgigjlcpofaaW.PrintWords Go.Proofs.YtdpcgigjlcpofaaW.PrintLast Go.Proofs.YtdpcgigjlcpofaaW.PrintMore
attribute [local go_sem] max2_int min2_int max_two min_two max_three min_three max_four min_four
attribute [local go_sem high] str_geq str_leq str_gtr
set_option linter.unusedVariables false
set_option linter.unusedSimpArgs false
def errW:Option (Int × Int)→Value
  |none=> .nilIface
  |some c=> .iface 115 (.agg #[.int .i64 c.1,.int .i64 c.2])
theorem errW_none:errW none= .nilIface:=rfl
theorem errW_some (c:Int × Int):errW (some c)= .iface 115 (.agg #[.int .i64 c.1,.int .i64 c.2]):=rfl
theorem info3:(Try.prog.info? 3).map (fun i=> (i.zero,i.size,i.bytes))=some (some (.int .i64 0),1,8):=by kernel_rfl
theorem info5:(Try.prog.info? 5).map (fun i=> (i.zero,i.size,i.bytes))=some (some (.int .u8 0),1,1):=by kernel_rfl
theorem info162:(Try.prog.info? 162).map (fun i=> (i.zero,i.size,i.bytes))=some (some (.slice none 0 0),1,24):=by kernel_rfl
theorem info164:(Try.prog.info? 164).map (fun i=> (i.zero,i.size,i.bytes))=some (some (.agg #[(.int .i64 0),(.string ⟨#[]⟩)]),2,24):=by kernel_rfl
theorem info166:(Try.prog.info? 166).map (fun i=> (i.zero,i.size,i.bytes))=some (some (.agg #[(.int .i64 0),(.int .i64 0),(.int .i64 0),(.string ⟨#[]⟩)]),4,40):=by kernel_rfl
theorem info169:(Try.prog.info? 169).map (fun i=> (i.zero,i.size,i.bytes))=some (some (.agg #[(.int .i64 0),(.int .i64 0),(.string ⟨#[]⟩)]),3,32):=by kernel_rfl
theorem info173:(Try.prog.info? 173).map (fun i=> (i.zero,i.size,i.bytes))=some (some (.agg #[(.int .i64 0),(.int .i64 0),(.int .i64 0),(.string ⟨#[]⟩)]),4,40):=by kernel_rfl
structure S164 where
  f0:Int
  f1:ByteArray
def z164:S164:=⟨(0:Int),(⟨#[]⟩:ByteArray)⟩
def k164:Kd S164:=Kd.iso (Kd.pair (Kd.int .i64) Kd.string) (fun x:S164=> (x.f0,x.f1))
theorem k164_open {w:World} {x:S164} {cs:List Value} (h:k164.K w x cs):cs=[.int .i64 x.f0,.string x.f1] :=by
  obtain⟨_,_,rfl,rfl,rfl⟩:=h
  exact rfl
theorem k164_mk (w:World) (x:S164):k164.K w x [.int .i64 x.f0,.string x.f1] :=⟨[.int .i64 x.f0],[.string x.f1],rfl,rfl,rfl⟩
theorem k164_mkM (w:World) (base:Nat) (ok:Nat→Prop) (x:S164):k164.M w base ok x [.int .i64 x.f0,.string x.f1] :=⟨[.int .i64 x.f0],[.string x.f1],rfl,rfl,rfl⟩
def rd_T164 (xs:List S164) (i:Int):S164:=xs.getD i.toNat z164
theorem at_T164 {w:World} {A:Option Addr} {n:Nat} {xs:List S164} (h:Kd.C k164 w A n xs) (i:Int) (h0:0≤i) (h1:i < n): ∃ ad,A=some ad∧w.cell? (ad.add (i.toNat * 2))=some (.int .i64 (rd_T164 xs i).f0)∧w.cell? ⟨(ad.add (i.toNat * 2)).block,(ad.add (i.toNat * 2)).off+1,none⟩=some (.string (rd_T164 xs i).f1):=by
  obtain⟨ad,c,e,_,hK,hc0⟩:=Kd.C_get h z164 i h0 h1
  have hc: ∀ j u,c[j]? =some u→w.cell? (ad.add (i.toNat * 2+j))=some u:=hc0
  obtain rfl:=k164_open hK
  exact⟨ad,e,hc 0 _ rfl,by rw[←add_field _ _ 1 (by omega)];exact hc 1 _ rfl⟩
def rd_L22 (xs:List (List S164)) (i:Int):(List S164):=xs.getD i.toNat ([] :List S164)
theorem at_L22 {w:World} {A:Option Addr} {n:Nat} {xs:List (List S164)} (h:Kd.C (Kd.slice 164 k164) w A n xs) (i:Int) (h0:0≤i) (h1:i < n): ∃ ad A0 c0,A=some ad∧w.cell? (ad.add i.toNat)=some (.slice A0 (rd_L22 xs i).length c0)∧(rd_L22 xs i).length≤c0∧k164.C w A0 (rd_L22 xs i).length (rd_L22 xs i):=by
  obtain⟨ad,c,e,_,hK,hc0⟩:=Kd.C_get h ([] :List S164) i h0 h1
  have hc: ∀ j u,c[j]? =some u→w.cell? (ad.add (i.toNat * 1+j))=some u:=hc0
  obtain⟨A0,c0,rfl,l0,g0⟩:=hK
  exact⟨ad,A0,c0,e,by have hq:=hc 0 _ rfl;rwa [Nat.mul_one,Nat.add_zero] at hq,l0,g0⟩
structure S75 where
  f0:(List (List S164))
def k75:Kd S75:=Kd.iso (Kd.slice 162 (Kd.slice 164 k164)) (fun x:S75=>x.f0)
theorem k75_open {w:World} {x:S75} {cs:List Value} (h:k75.K w x cs): ∃ A0 c0,cs=[.slice A0 x.f0.length c0]∧x.f0.length≤c0∧(Kd.slice 164 k164).C w A0 x.f0.length x.f0:=by
  obtain⟨A0,c0,rfl,l0,g0⟩:=h
  exact⟨A0,c0,rfl,l0,g0⟩
structure S166 where
  f0:Int
  f1:Int
  f2:Int
  f3:ByteArray
def z166:S166:=⟨(0:Int),(0:Int),(0:Int),(⟨#[]⟩:ByteArray)⟩
def k166:Kd S166:=Kd.iso (Kd.pair (Kd.int .i64) (Kd.pair (Kd.int .i64) (Kd.pair (Kd.int .i64) Kd.string))) (fun x:S166=> (x.f0,x.f1,x.f2,x.f3))
theorem k166_open {w:World} {x:S166} {cs:List Value} (h:k166.K w x cs):cs=[.int .i64 x.f0,.int .i64 x.f1,.int .i64 x.f2,.string x.f3] :=by
  obtain⟨_,_,rfl,rfl,⟨_,_,rfl,rfl,⟨_,_,rfl,rfl,rfl⟩⟩⟩:=h
  exact rfl
theorem k166_openM {w:World} {base:Nat} {ok:Nat→Prop} {x:S166} {cs:List Value} (h:k166.M w base ok x cs):cs=[.int .i64 x.f0,.int .i64 x.f1,.int .i64 x.f2,.string x.f3] :=by
  obtain⟨_,_,rfl,rfl,⟨_,_,rfl,rfl,⟨_,_,rfl,rfl,rfl⟩⟩⟩:=h
  exact rfl
theorem k166_mkM (w:World) (base:Nat) (ok:Nat→Prop) (x:S166):k166.M w base ok x [.int .i64 x.f0,.int .i64 x.f1,.int .i64 x.f2,.string x.f3] :=⟨[.int .i64 x.f0],[.int .i64 x.f1,.int .i64 x.f2,.string x.f3],rfl,rfl,⟨[.int .i64 x.f1],[.int .i64 x.f2,.string x.f3],rfl,rfl,⟨[.int .i64 x.f2],[.string x.f3],rfl,rfl,rfl⟩⟩⟩
def rd_T166 (xs:List S166) (i:Int):S166:=xs.getD i.toNat z166
theorem at_T166 {w:World} {A:Option Addr} {n:Nat} {xs:List S166} (h:Kd.C k166 w A n xs) (i:Int) (h0:0≤i) (h1:i < n): ∃ ad,A=some ad∧w.cell? (ad.add (i.toNat * 4))=some (.int .i64 (rd_T166 xs i).f0)∧w.cell? ⟨(ad.add (i.toNat * 4)).block,(ad.add (i.toNat * 4)).off+1,none⟩=some (.int .i64 (rd_T166 xs i).f1)∧w.cell? ⟨(ad.add (i.toNat * 4)).block,(ad.add (i.toNat * 4)).off+2,none⟩=some (.int .i64 (rd_T166 xs i).f2)∧w.cell? ⟨(ad.add (i.toNat * 4)).block,(ad.add (i.toNat * 4)).off+3,none⟩=some (.string (rd_T166 xs i).f3):=by
  obtain⟨ad,c,e,_,hK,hc0⟩:=Kd.C_get h z166 i h0 h1
  have hc: ∀ j u,c[j]? =some u→w.cell? (ad.add (i.toNat * 4+j))=some u:=hc0
  obtain rfl:=k166_open hK
  exact⟨ad,e,hc 0 _ rfl,by rw[←add_field _ _ 1 (by omega)];exact hc 1 _ rfl,by rw[←add_field _ _ 2 (by omega)];exact hc 2 _ rfl,by rw[←add_field _ _ 3 (by omega)];exact hc 3 _ rfl⟩
structure S169 where
  f0:Int
  f1:Int
  f2:ByteArray
def z169:S169:=⟨(0:Int),(0:Int),(⟨#[]⟩:ByteArray)⟩
def k169:Kd S169:=Kd.iso (Kd.pair (Kd.int .i64) (Kd.pair (Kd.int .i64) Kd.string)) (fun x:S169=> (x.f0,x.f1,x.f2))
theorem k169_open {w:World} {x:S169} {cs:List Value} (h:k169.K w x cs):cs=[.int .i64 x.f0,.int .i64 x.f1,.string x.f2] :=by
  obtain⟨_,_,rfl,rfl,⟨_,_,rfl,rfl,rfl⟩⟩:=h
  exact rfl
theorem k169_mkM (w:World) (base:Nat) (ok:Nat→Prop) (x:S169):k169.M w base ok x [.int .i64 x.f0,.int .i64 x.f1,.string x.f2] :=⟨[.int .i64 x.f0],[.int .i64 x.f1,.string x.f2],rfl,rfl,⟨[.int .i64 x.f1],[.string x.f2],rfl,rfl,rfl⟩⟩
def rd_T169 (xs:List S169) (i:Int):S169:=xs.getD i.toNat z169
theorem at_T169 {w:World} {A:Option Addr} {n:Nat} {xs:List S169} (h:Kd.C k169 w A n xs) (i:Int) (h0:0≤i) (h1:i < n): ∃ ad,A=some ad∧w.cell? (ad.add (i.toNat * 3))=some (.int .i64 (rd_T169 xs i).f0)∧w.cell? ⟨(ad.add (i.toNat * 3)).block,(ad.add (i.toNat * 3)).off+1,none⟩=some (.int .i64 (rd_T169 xs i).f1)∧w.cell? ⟨(ad.add (i.toNat * 3)).block,(ad.add (i.toNat * 3)).off+2,none⟩=some (.string (rd_T169 xs i).f2):=by
  obtain⟨ad,c,e,_,hK,hc0⟩:=Kd.C_get h z169 i h0 h1
  have hc: ∀ j u,c[j]? =some u→w.cell? (ad.add (i.toNat * 3+j))=some u:=hc0
  obtain rfl:=k169_open hK
  exact⟨ad,e,hc 0 _ rfl,by rw[←add_field _ _ 1 (by omega)];exact hc 1 _ rfl,by rw[←add_field _ _ 2 (by omega)];exact hc 2 _ rfl⟩
structure S173 where
  f0:Int
  f1:Int
  f2:Int
  f3:ByteArray
def z173:S173:=⟨(0:Int),(0:Int),(0:Int),(⟨#[]⟩:ByteArray)⟩
def k173:Kd S173:=Kd.iso (Kd.pair (Kd.int .i64) (Kd.pair (Kd.int .i64) (Kd.pair (Kd.int .i64) Kd.string))) (fun x:S173=> (x.f0,x.f1,x.f2,x.f3))
theorem k173_open {w:World} {x:S173} {cs:List Value} (h:k173.K w x cs):cs=[.int .i64 x.f0,.int .i64 x.f1,.int .i64 x.f2,.string x.f3] :=by
  obtain⟨_,_,rfl,rfl,⟨_,_,rfl,rfl,⟨_,_,rfl,rfl,rfl⟩⟩⟩:=h
  exact rfl
theorem k173_mkM (w:World) (base:Nat) (ok:Nat→Prop) (x:S173):k173.M w base ok x [.int .i64 x.f0,.int .i64 x.f1,.int .i64 x.f2,.string x.f3] :=⟨[.int .i64 x.f0],[.int .i64 x.f1,.int .i64 x.f2,.string x.f3],rfl,rfl,⟨[.int .i64 x.f1],[.int .i64 x.f2,.string x.f3],rfl,rfl,⟨[.int .i64 x.f2],[.string x.f3],rfl,rfl,rfl⟩⟩⟩
def rd_T173 (xs:List S173) (i:Int):S173:=xs.getD i.toNat z173
theorem at_T173 {w:World} {A:Option Addr} {n:Nat} {xs:List S173} (h:Kd.C k173 w A n xs) (i:Int) (h0:0≤i) (h1:i < n): ∃ ad,A=some ad∧w.cell? (ad.add (i.toNat * 4))=some (.int .i64 (rd_T173 xs i).f0)∧w.cell? ⟨(ad.add (i.toNat * 4)).block,(ad.add (i.toNat * 4)).off+1,none⟩=some (.int .i64 (rd_T173 xs i).f1)∧w.cell? ⟨(ad.add (i.toNat * 4)).block,(ad.add (i.toNat * 4)).off+2,none⟩=some (.int .i64 (rd_T173 xs i).f2)∧w.cell? ⟨(ad.add (i.toNat * 4)).block,(ad.add (i.toNat * 4)).off+3,none⟩=some (.string (rd_T173 xs i).f3):=by
  obtain⟨ad,c,e,_,hK,hc0⟩:=Kd.C_get h z173 i h0 h1
  have hc: ∀ j u,c[j]? =some u→w.cell? (ad.add (i.toNat * 4+j))=some u:=hc0
  obtain rfl:=k173_open hK
  exact⟨ad,e,hc 0 _ rfl,by rw[←add_field _ _ 1 (by omega)];exact hc 1 _ rfl,by rw[←add_field _ _ 2 (by omega)];exact hc 2 _ rfl,by rw[←add_field _ _ 3 (by omega)];exact hc 3 _ rfl⟩
theorem flat_k164:Flat k164:=by
  intro w base ok x cs h
  exact h
theorem qA {P:Prop} (h:P:=by first|(with_reducible assumption)|assumption):P:=h
theorem qB {P:Prop} (h:P:=by repeat(first|(with_reducible first|exact HB.out|apply below_alloc|apply pw_below_drewN|apply below_drew1|refine below_set ?_ (Aside0.out (by assumption)))|exact HB.out)):P:=h
theorem qC {Q P:Prop} (hq:Q) (h:Q→P:=by intro h_;repeat(first|exact h_|(with_reducible refine Kd.C_alloc ?_ _)|(with_reducible refine Kd.C_drewN ?_ _)|(with_reducible refine Kd.C_drew ?_))):P:=h hq
theorem qE {P:Prop} (h:P:=by first|rfl|(simp[errW_none,errW_some] <;> rfl)|(simp[*,errW_none,errW_some] <;> rfl)):P:=h
theorem qG {P:Prop} (h:P:=by(try simp only[List.map_toArray,List.map_cons,List.map_nil]);first|done|rfl|(simp only[List.length_drop,List.length_take];rfl)):P:=h
theorem qH {S:Prop} {n:Nat} {w W0 W:World} (hS:S) (hB:Below n w W0) (h:S→Below n w W0→Below n w W:=by intro s_ b_;repeat(first|(with_reducible first|exact b_|apply below_alloc|apply pw_below_drewN|apply below_drew1|refine below_set ?_ (Aside0.out (by assumption))|refine below_set ?_ (IsS31.ge s_))|exact b_)):Below n w W:=h hS hB
theorem qJ {w W0 W:World} {g:Nat} {row:Option Nat} (hq:KeepBut w W0 g row) (h:KeepBut w W0 g row→KeepBut w W g row:=by intro h_;repeat(first|(with_reducible first|exact h_|apply KeepBut.set_|apply keep_drewN|apply keep_drew|apply keep_alloc|refine keep_far ?_ (Aside0.out (by assumption)) _)|exact h_)):KeepBut w W g row:=h hq
theorem qN {P:Prop} (h:P:=by first|exact Kd.R_nil _ _ _ _ _|exact Kd.N_nil _ _ _ _ _|exact Kd.V_nil _ _ _ _ _|exact Kd.Q_nil _ _ _ _ _|exact Kd.S_nil _ _ _ _ _):P:=h
theorem qP2 {w:World} {g:Nat} {t:TypeId} {v0 v1 u0 u1:Value} (h:w.heap[g]? =some (.cells #[v0,v1] t (0,0))):((w.setCell ⟨g,0,none⟩ u0).setCell ⟨g,1,none⟩ u1).heap[g]? =some (.cells #[u0,u1] t (0,0)):=by refine blk_put (cs:= #[u0,v1]) ?_ 1 _ rfl;refine blk_put (cs:= #[v0,v1]) ?_ 0 _ rfl;exact h
theorem qP3 {w:World} {g:Nat} {t:TypeId} {v0 v1 v2 u0 u1 u2:Value} (h:w.heap[g]? =some (.cells #[v0,v1,v2] t (0,0))):(((w.setCell ⟨g,0,none⟩ u0).setCell ⟨g,1,none⟩ u1).setCell ⟨g,2,none⟩ u2).heap[g]? =some (.cells #[u0,u1,u2] t (0,0)):=by refine blk_put (cs:= #[u0,u1,v2]) ?_ 2 _ rfl;refine blk_put (cs:= #[u0,v1,v2]) ?_ 1 _ rfl;refine blk_put (cs:= #[v0,v1,v2]) ?_ 0 _ rfl;exact h
theorem qP4 {w:World} {g:Nat} {t:TypeId} {v0 v1 v2 v3 u0 u1 u2 u3:Value} (h:w.heap[g]? =some (.cells #[v0,v1,v2,v3] t (0,0))):((((w.setCell ⟨g,0,none⟩ u0).setCell ⟨g,1,none⟩ u1).setCell ⟨g,2,none⟩ u2).setCell ⟨g,3,none⟩ u3).heap[g]? =some (.cells #[u0,u1,u2,u3] t (0,0)):=by refine blk_put (cs:= #[u0,u1,u2,v3]) ?_ 3 _ rfl;refine blk_put (cs:= #[u0,u1,v2,v3]) ?_ 2 _ rfl;refine blk_put (cs:= #[u0,v1,v2,v3]) ?_ 1 _ rfl;refine blk_put (cs:= #[v0,v1,v2,v3]) ?_ 0 _ rfl;exact h
theorem qS {P:Prop} (h:P:=by rw[hg];exact(below_size (by repeat(first|(with_reducible first|exact HB.out|apply below_alloc|apply pw_below_drewN|apply below_drew1|refine below_set ?_ (Aside0.out (by assumption)))|exact HB.out)))):P:=h
theorem qT {n:Nat} {w W0 W:World} (hB:Below n w W0) (h:Below n w W0→Below n w W:=by intro b_;repeat(first|(with_reducible first|exact b_|apply below_alloc|apply pw_below_drewN|apply below_drew1|refine below_set ?_ (Aside0.out (by assumption)))|exact b_)):Below n w W:=h hB
theorem qc2f {w:World} {g:Nat} {t:TypeId} {v0 v1:Value} (h:w.heap[g]? =some (.cells #[v0,v1] t (0,0))):w.cell? ⟨g,0,none⟩=some v0∧w.cell? ⟨g,1,none⟩=some v1∧w.frozen? ⟨g,0,none⟩=false∧w.frozen? ⟨g,1,none⟩=false:=⟨(blk_cell h 0).trans rfl,(blk_cell h 1).trans rfl,blk_frozen h 0,blk_frozen h 1⟩
theorem qc3f {w:World} {g:Nat} {t:TypeId} {v0 v1 v2:Value} (h:w.heap[g]? =some (.cells #[v0,v1,v2] t (0,0))):w.cell? ⟨g,0,none⟩=some v0∧w.cell? ⟨g,1,none⟩=some v1∧w.cell? ⟨g,2,none⟩=some v2∧w.frozen? ⟨g,0,none⟩=false∧w.frozen? ⟨g,1,none⟩=false∧w.frozen? ⟨g,2,none⟩=false:=⟨(blk_cell h 0).trans rfl,(blk_cell h 1).trans rfl,(blk_cell h 2).trans rfl,blk_frozen h 0,blk_frozen h 1,blk_frozen h 2⟩
theorem qc4f {w:World} {g:Nat} {t:TypeId} {v0 v1 v2 v3:Value} (h:w.heap[g]? =some (.cells #[v0,v1,v2,v3] t (0,0))):w.cell? ⟨g,0,none⟩=some v0∧w.cell? ⟨g,1,none⟩=some v1∧w.cell? ⟨g,2,none⟩=some v2∧w.cell? ⟨g,3,none⟩=some v3∧w.frozen? ⟨g,0,none⟩=false∧w.frozen? ⟨g,1,none⟩=false∧w.frozen? ⟨g,2,none⟩=false∧w.frozen? ⟨g,3,none⟩=false:=⟨(blk_cell h 0).trans rfl,(blk_cell h 1).trans rfl,(blk_cell h 2).trans rfl,(blk_cell h 3).trans rfl,blk_frozen h 0,blk_frozen h 1,blk_frozen h 2,blk_frozen h 3⟩
theorem qg {P:Prop} (h:P:=by first|(go_simp;done)|(go_simp;rfl)):P:=h
theorem qr {P:Prop} (h:P:=by rfl):P:=h
theorem qy {P:Prop} (h:P:=by intro w';go_simp;with_reducible rfl):P:=h
theorem qz {P:Prop} (h:P:=by simp only[Act.put,List.setIfInBounds_toArray,List.set_cons_zero,List.set_cons_succ,i64_w,i32_w];rfl):P:=h
theorem qL {W0 W:World} {g:Nat} {o:Obj} (h0:W0.heap[g]? =some o) (h:W0.heap[g]? =some o→W.heap[g]? =some o:=by intro h_;(with_reducible repeat(first|refine blk_drewN ?_ _|refine blk_drew ?_|refine blk_alloc ?_ _|apply qP2|apply qP3|apply qP4|refine blk_far ?_ (Aside0.out (by assumption)) _));exact h_):g < W.heap.size:=blk_lt (h h0)
theorem qV {Q P:Prop} (hq:Q) (h:Q→P:=by intro h_;(with_reducible repeat(first|refine blk_drewN ?_ _|refine blk_drew ?_|refine blk_alloc ?_ _|apply qP2|apply qP3|apply qP4|refine blk_far ?_ (Aside0.out (by assumption)) _));exact h_):P:=h hq
theorem qW {Q P:Prop} (hq:Q) (h:Q→P:=by intro h_;(with_reducible repeat(first|refine blk_drewN ?_ _|refine blk_drew ?_|refine blk_alloc ?_ _|apply qP2|apply qP3|apply qP4|refine blk_far ?_ (Aside0.out (by assumption)) _));exact h_):P:=h hq
theorem qX {W0 W w1:World} {g:Nat} {o:Obj} (h0:W0.heap[g]? =some o) (hb:Below W.heap.size W w1) (h:W0.heap[g]? =some o→W.heap[g]? =some o:=by intro h_;(with_reducible repeat(first|refine blk_drewN ?_ _|refine blk_drew ?_|refine blk_alloc ?_ _|apply qP2|apply qP3|apply qP4|refine blk_far ?_ (Aside0.out (by assumption)) _));exact h_):w1.heap[g]? =some o:=blk_below (h h0) hb
abbrev J:Bool:=true
abbrev O:Bool:=false
theorem qF_ {P:Prop} (h:P:=by first|rfl|(simp;done)|(simp[*];done)):P:=h
theorem qU_ {W0 W:World} {p:Addr} {v:Value} (h:W0.cell? p=some v) (hb:Below W0.heap.size W0 W:=by exact HB.out):W.cell? p=some v:=(hb.cell (World.block_lt_of_cell? W0 _ h)).trans h
theorem qD_ {α β:Type} {o:Option α} {f:α→Option β} {r:β} (h:o.bind f=some r): ∃ t,Aside0 (o=some t)∧f t=some r:=by obtain⟨t,a,b⟩:=Option.bind_eq_some_iff.mp h;exact⟨t,Aside0.mk a,b⟩
theorem qO_ {p:Prop} [Decidable p] (h:decide p=true:=by first|(with_reducible assumption)|assumption):p:=of_decide_eq_true h
theorem qR_ {Q P:Prop} (hq:Q) (h:Q→P:=by intro h_;(with_reducible repeat(first|apply Kd.R_alloc|apply Kd.R_drewN|apply Kd.R_drew));exact h_):P:=h hq
theorem qN_ {Q P:Prop} (hq:Q) (h:Q→P:=by intro h_;(with_reducible repeat(first|apply Kd.N_alloc|apply Kd.N_drewN|apply Kd.N_drew));exact h_):P:=h hq
theorem qS_ {Q P:Prop} (hq:Q) (h:Q→P:=by intro h_;(with_reducible repeat(first|apply Kd.S_alloc|apply Kd.S_drewN|apply Kd.S_drew));exact h_):P:=h hq
theorem qV_ {Q P:Prop} (hq:Q) (h:Q→P:=by intro h_;(with_reducible repeat(first|apply Kd.V_alloc|apply Kd.V_drewN|apply Kd.V_drew));exact h_):P:=h hq
abbrev zA:= @Aside0.mk
abbrev zB:= @pw_below_drewN
abbrev zC:= @below_drew1
abbrev zD:= @below_alloc
abbrev zE:= @below_set
abbrev zF:= @blk_cell
abbrev zG:= @blk_frozen
abbrev zH:= @List.setIfInBounds_toArray
abbrev zI:= @List.set_cons_zero
abbrev zJ:= @List.set_cons_succ
abbrev zM:= @keep_drew
abbrev zP:= @List.length_drop
abbrev zQ:= @List.length_take
abbrev zR:= @List.map_toArray
abbrev zS:= @List.map_cons
abbrev zT:= @List.map_nil
abbrev zV:= @below_step
abbrev zW:= @below_size
abbrev zX:= @blk_below
abbrev zY:= @blk_drewN
abbrev zZ:= @blk_alloc
abbrev zAq:= @blk_drew
abbrev zBq:= @KeepBut.trans
abbrev zCq:= @World.block_lt_of_cell?
abbrev zFq:= @decide_eq_true
abbrev zGq:= @decide_eq_false
abbrev zJq:= @gate_callee
abbrev zKq:= @Option.some.inj
abbrev zLq:= @Nat.ne_of_lt
abbrev zMq:= @Nat.ne_of_gt
abbrev zNq:= @Option.some.injEq
abbrev zOq:= @Prod.mk.injEq
mutual
def aN.l0:Nat→Int→List (List (S164))→Option (Bool)
  |0,_,_=>none
  |k+1,x3,x102000=>if x3 < (x102000.length:Int)then(if 0≤x3 then(if((rd_L22 x102000 x3).length:Int) > 70 then(some false)else(aN.l1 k x3 0 x102000))else(none))else(some true)
def aN.l1:Nat→Int→Int→List (List (S164))→Option (Bool)
  |0,_,_,_=>none
  |k+1,x3,x4,x102000=>if 0≤x3 then(if x3 < (x102000.length:Int)then(if x4 < ((rd_L22 x102000 x3).length:Int)then(if 0≤x4 then(if(((rd_T164 (rd_L22 x102000 x3) x4).f1).size:Int) > 300 then(some false)else(aN.l1 k x3 (wrap64 (x4+1)) x102000))else(none))else(aN.l0 k (wrap64 (x3+1)) x102000))else(none))else(none)
end
def aN.f (k:Nat) (l0_0:List (List (S164))):Option (Bool):=if(l0_0.length:Int) > 12 then(some false)else(aN.l0 k 0 l0_0)
theorem aN.mono_l: ∀ k,(∀ y0 y1,LeO (aN.l0 k y0 y1) (aN.l0 (k+1) y0 y1))∧(∀ y0 y1 y2,LeO (aN.l1 k y0 y1 y2) (aN.l1 (k+1) y0 y1 y2))
  |0=> ⟨fun _ _ r h=>by simp[aN.l0] at h,fun _ _ _ r h=>by simp[aN.l1] at h⟩
  |k+1=>by
    obtain⟨ih0,ih1⟩:=aN.mono_l k
    refine⟨?_,?_⟩
    · intro y0 y1
      unfold aN.l0
      repeat' (with_reducible first|exact ih0 _ _|exact ih1 _ _ _|exact LeO.refl _|exact LeO.none _|refine LeO.ite ?_ ?_|refine LeO.bind ?_ (fun _=>?_))
    intro y0 y1 y2
    unfold aN.l1
    repeat' (with_reducible first|exact ih0 _ _|exact ih1 _ _ _|exact LeO.refl _|exact LeO.none _|refine LeO.ite ?_ ?_|refine LeO.bind ?_ (fun _=>?_))
theorem aN.mono: ∀ a0 k,LeO (aN.f k a0) (aN.f (k+1) a0):=by
  intro a0 k
  obtain⟨ih0,ih1⟩:=aN.mono_l k
  unfold aN.f
  repeat' (with_reducible first|exact ih0 _ _|exact ih1 _ _ _|exact LeO.refl _|exact LeO.none _|refine LeO.ite ?_ ?_|refine LeO.bind ?_ (fun _=>?_))
theorem aN.calls (k:Nat) (A0_0:Option Addr) (c0_0:Nat) (l0_0:List (List (S164))) (r:Bool) (w:World) (hr0_0:Kd.C (Kd.slice 164 k164) w A0_0 l0_0.length l0_0) (hc0_0:l0_0.length≤c0_0) (h:aN.f k l0_0=some r):
  Calls Try.prog 41 #[.agg #[.slice A0_0 l0_0.length c0_0]] w fun e w'=>e= .returned (.bool r)∧Below w.heap.size w w':=by
 have hu75:=Try.underlying75
 have HR0_0:=zA hr0_0
 have HC0_0:=zA hc0_0
 clear hr0_0 hc0_0
 have HB:=zA (Below.refl w.heap.size w)
 have H:(if(l0_0.length:Int) > 12 then(some false)else(aN.l0 k 0 l0_0))=some r:=h
 clear h
 by_cases c2:(l0_0.length:Int) > 12
 ·rw[if_pos c2] at H
  have c2b0:decide (12 < (l0_0.length:Int))=true:=zFq c2;have c2b1:decide (12 < l0_0.length)=true:=zFq (by omega);clear c2;obtain rfl:=zKq H;go_enter Try.func41,Try.ntmps41;go_wp2_with (first|((with_reducible refine gate_dst (N:=1) rfl ?_);refine box_event qr (N:=1) qr (cs:= #[.slice A0_0 l0_0.length c0_0]) (t:=75) qg ?_;intro gb101 hg w3 hbox hb;have BK101:=zA (hbox);have GW101:=zA ((qS:w.heap.size≤gb101));have GE101:=zA ((qS:w.heap.size≤gb101));replace HB:=zA (zV qB hb);clear hb hbox hg;have hcz4_0:w3.cell? ⟨gb101,0,none⟩=some (.slice A0_0 l0_0.length c0_0):=(zF BK101.out 0).trans rfl;have hfz4_0:=zG BK101.out 0));go_ret;exact⟨qE,qB⟩
 rw[if_neg c2] at H
 have c2b0:decide (12 < (l0_0.length:Int))=false:=zGq c2
 have c2b1:decide (12 < l0_0.length)=false:=zGq (by omega)
 clear c2
 have H':=zA H
 clear H
 go_enter Try.func41,Try.ntmps41
 go_wp2_with (first|((with_reducible refine gate_dst (N:=1) rfl ?_);refine box_event qr (N:=1) qr (cs:= #[.slice A0_0 l0_0.length c0_0]) (t:=75) qg ?_;intro gb101 hg w5 hbox hb;have BK101:=zA (hbox);have GW101:=zA ((qS:w.heap.size≤gb101));have GE101:=zA ((qS:w.heap.size≤gb101));replace HB:=zA (zV qB hb);clear hb hbox hg;have hcz6_0:w5.cell? ⟨gb101,0,none⟩=some (.slice A0_0 l0_0.length c0_0):=(zF BK101.out 0).trans rfl;have hfz6_0:=zG BK101.out 0))
 go_loopg[3] k (fun kq v3 w'=> ∃ (x3_1:Int),v3= .int .i64 x3_1∧Aside0 (aN.l0 kq x3_1 l0_0=some r)∧Aside0 (kq≤k)∧Aside0 (w'.heap[gb101]? =some (.cells #[(.slice A0_0 l0_0.length c0_0)] 75 (0,0)))∧Aside0 (Below w.heap.size w w'))
 case atStart=>exact⟨(0),qF_,H',⟨Nat.le_refl _⟩,⟨by exact BK101.out⟩,⟨qB⟩⟩
 case round=>
  clear H';try clear c2
  try clear c2b0
  try clear c2b1
  try clear p2
  try clear c4
  try clear hcz4_0
  try clear hcz6_0
  try clear hfz4_0
  try clear hfz6_0
  obtain⟨x3_1,rfl,HA,HK1,BK101,HB⟩:=hrel;cases gk with
  |zero=>exact absurd HA.out (by simp[aN.l0])
  |succ k1=>
   have H:=HA.out;clear HA;simp only[aN.l0] at H;by_cases c7:x3_1 < (l0_0.length:Int)
   ·rw[if_pos c7] at H
    have c7b0:=zFq c7;clear c7;by_cases c8:0≤x3_1
    ·rw[if_pos c8] at H
     have c8b0:=zFq c8;clear c8;by_cases c9:((rd_L22 l0_0 x3_1).length:Int) > 70
     ·rw[if_pos c9] at H
      have c9b0:decide (70 < ((rd_L22 l0_0 x3_1).length:Int))=true:=zFq c9;have c9b1:decide (70 < (rd_L22 l0_0 x3_1).length)=true:=zFq (by omega);clear c9;obtain rfl:=zKq H;have hcz10_0:wr.cell? ⟨gb101,0,none⟩=some (.slice A0_0 l0_0.length c0_0):=(zF BK101.out 0).trans rfl;have hfz10_0:=zG BK101.out 0;have p102:0≤(x3_1:Int):=qO_;have q102:x3_1 < (l0_0.length:Int):=qO_;obtain⟨ad102,A102_0,c102_0,e102,hx102_0,hl102_0,hi102_0⟩:=at_L22 HR0_0.out x3_1 p102 q102;cases e102
      replace hx102_0:=qU_ hx102_0;have HR102_0:=zA hi102_0;have HC102_0:=zA hl102_0;clear hi102_0 hl102_0;replace p102:=eq_true p102;replace q102:=eq_true q102;go_wp2;go_ret;exact⟨qE,qB⟩
     rw[if_neg c9] at H;have c9b0:decide (70 < ((rd_L22 l0_0 x3_1).length:Int))=false:=zGq c9;have c9b1:decide (70 < (rd_L22 l0_0 x3_1).length)=false:=zGq (by omega);clear c9;have H':=zA H;clear H;have hcz11_0:wr.cell? ⟨gb101,0,none⟩=some (.slice A0_0 l0_0.length c0_0):=(zF BK101.out 0).trans rfl;have hfz11_0:=zG BK101.out 0;have p102:0≤(x3_1:Int):=qO_;have q102:x3_1 < (l0_0.length:Int):=qO_;obtain⟨ad102,A102_0,c102_0,e102,hx102_0,hl102_0,hi102_0⟩:=at_L22 HR0_0.out x3_1 p102 q102;cases e102
     replace hx102_0:=qU_ hx102_0;have HR102_0:=zA hi102_0;have HC102_0:=zA hl102_0;clear hi102_0 hl102_0;replace p102:=eq_true p102;replace q102:=eq_true q102;go_wp2;go_loopg[4] k1 (fun kq v4 w'=> ∃ (x4_2:Int),v4= .int .i64 x4_2∧Aside0 (aN.l1 kq x3_1 x4_2 l0_0=some r)∧Aside0 (kq≤k1)∧Aside0 (w'.heap[gb101]? =some (.cells #[(.slice (some ad102) l0_0.length c0_0)] 75 (0,0)))∧Aside0 (Below w.heap.size w w'))
     case atStart=>exact⟨(0),qF_,H',⟨Nat.le_refl _⟩,⟨by exact BK101.out⟩,⟨qB⟩⟩
     case round=>
      clear H';try clear c1
      try clear p1
      try clear q1
      try clear hx1
      try clear c2
      try clear c2b0
      try clear c2b1
      try clear p2
      try clear c4
      try clear c7
      try clear c7b0
      try clear c8
      try clear c8b0
      try clear c9
      try clear c9b0
      try clear c9b1
      try clear c10
      try clear p10
      try clear q10
      try clear hx10
      try clear hcz10_0
      try clear hcz11_0
      try clear hcz4_0
      try clear hcz6_0
      try clear hfz10_0
      try clear hfz11_0
      try clear hfz4_0
      try clear hfz6_0
      try clear hx102_0
      try clear p102
      try clear p2
      try clear q102
      obtain⟨x4_2,rfl,HA,HK2,BK101,HB⟩:=hrel;cases gk with
      |zero=>exact absurd HA.out (by simp[aN.l1])
      |succ k2=>
       have H:=HA.out;clear HA;simp only[aN.l1] at H;by_cases c12:0≤x3_1
       ·rw[if_pos c12] at H
        have c12b0:=zFq c12;clear c12;by_cases c13:x3_1 < (l0_0.length:Int)
        ·rw[if_pos c13] at H
         have c13b0:=zFq c13;clear c13;by_cases c14:x4_2 < ((rd_L22 l0_0 x3_1).length:Int)
         ·rw[if_pos c14] at H
          have c14b0:=zFq c14;clear c14;by_cases c15:0≤x4_2
          ·rw[if_pos c15] at H
           have c15b0:=zFq c15;clear c15;by_cases c16:(((rd_T164 (rd_L22 l0_0 x3_1) x4_2).f1).size:Int) > 300
           ·rw[if_pos c16] at H
            have c16b0:decide (300 < (((rd_T164 (rd_L22 l0_0 x3_1) x4_2).f1).size:Int))=true:=zFq c16;have c16b1:decide (300 < ((rd_T164 (rd_L22 l0_0 x3_1) x4_2).f1).size)=true:=zFq (by omega);clear c16;obtain rfl:=zKq H;have hcz17_0:wr.cell? ⟨gb101,0,none⟩=some (.slice (some ad102) l0_0.length c0_0):=(zF BK101.out 0).trans rfl;have hfz17_0:=zG BK101.out 0;have p103:0≤(x3_1:Int):=qO_;have q103:x3_1 < (l0_0.length:Int):=qO_;obtain⟨ad103,A103_0,c103_0,e103,hx103_0,hl103_0,hi103_0⟩:=at_L22 HR0_0.out x3_1 p103 q103;obtain rfl:ad102=ad103:=(by injection e103)
            replace hx103_0:=qU_ hx103_0;have HR103_0:=zA hi103_0;have HC103_0:=zA hl103_0;clear hi103_0 hl103_0;replace p103:=eq_true p103;replace q103:=eq_true q103;have p104:0≤(x3_1:Int):=qO_;have q104:x3_1 < (l0_0.length:Int):=qO_;obtain⟨ad104,A104_0,c104_0,e104,hx104_0,hl104_0,hi104_0⟩:=at_L22 HR0_0.out x3_1 p104 q104;obtain rfl:ad102=ad104:=(by injection e104)
            replace hx104_0:=qU_ hx104_0;have HR104_0:=zA hi104_0;have HC104_0:=zA hl104_0;clear hi104_0 hl104_0;replace p104:=eq_true p104;replace q104:=eq_true q104;have ea_:=zKq (hx103_0.symm.trans hx104_0);injection ea_ with ea_ en_ ec_
            subst ea_;subst ec_;clear en_;have p105:0≤(x4_2:Int):=qO_;have q105:x4_2 < ((rd_L22 l0_0 x3_1).length:Int):=qO_;obtain⟨ad105,e105,hx105_0,hx105_1⟩:=at_T164 HR104_0.out x4_2 p105 q105;cases e105
            replace hx105_0:=qU_ hx105_0;replace hx105_1:=qU_ hx105_1;replace p105:=eq_true p105;replace q105:=eq_true q105;go_wp2;go_ret;exact⟨qE,qB⟩
           rw[if_neg c16] at H;have c16b0:decide (300 < (((rd_T164 (rd_L22 l0_0 x3_1) x4_2).f1).size:Int))=false:=zGq c16;have c16b1:decide (300 < ((rd_T164 (rd_L22 l0_0 x3_1) x4_2).f1).size)=false:=zGq (by omega);clear c16;have H':=zA H;clear H;have hcz18_0:wr.cell? ⟨gb101,0,none⟩=some (.slice (some ad102) l0_0.length c0_0):=(zF BK101.out 0).trans rfl;have hfz18_0:=zG BK101.out 0;have p103:0≤(x3_1:Int):=qO_;have q103:x3_1 < (l0_0.length:Int):=qO_;obtain⟨ad103,A103_0,c103_0,e103,hx103_0,hl103_0,hi103_0⟩:=at_L22 HR0_0.out x3_1 p103 q103;obtain rfl:ad102=ad103:=(by injection e103)
           replace hx103_0:=qU_ hx103_0;have HR103_0:=zA hi103_0;have HC103_0:=zA hl103_0;clear hi103_0 hl103_0;replace p103:=eq_true p103;replace q103:=eq_true q103;have p104:0≤(x3_1:Int):=qO_;have q104:x3_1 < (l0_0.length:Int):=qO_;obtain⟨ad104,A104_0,c104_0,e104,hx104_0,hl104_0,hi104_0⟩:=at_L22 HR0_0.out x3_1 p104 q104;obtain rfl:ad102=ad104:=(by injection e104)
           replace hx104_0:=qU_ hx104_0;have HR104_0:=zA hi104_0;have HC104_0:=zA hl104_0;clear hi104_0 hl104_0;replace p104:=eq_true p104;replace q104:=eq_true q104;have ea_:=zKq (hx103_0.symm.trans hx104_0);injection ea_ with ea_ en_ ec_
           subst ea_;subst ec_;clear en_;have p105:0≤(x4_2:Int):=qO_;have q105:x4_2 < ((rd_L22 l0_0 x3_1).length:Int):=qO_;obtain⟨ad105,e105,hx105_0,hx105_1⟩:=at_T164 HR104_0.out x4_2 p105 q105;cases e105
           replace hx105_0:=qU_ hx105_0;replace hx105_1:=qU_ hx105_1;replace p105:=eq_true p105;replace q105:=eq_true q105;go_wp2;go_roundg k2
           case measure=>have:=HK1.out;have:=HK2.out;omega
           case rel=>exact⟨(wrap64 (x4_2+1)),qF_,H',⟨by have:=HK1.out;have:=HK2.out;omega⟩,⟨by exact BK101.out⟩,⟨qB⟩⟩
          rw[if_neg c15] at H;exact absurd H (by simp)
         rw[if_neg c14] at H;have c14b0:=zGq c14;clear c14;have H':=zA H;clear H;have hcz19_0:wr.cell? ⟨gb101,0,none⟩=some (.slice (some ad102) l0_0.length c0_0):=(zF BK101.out 0).trans rfl;have hfz19_0:=zG BK101.out 0;have p103:0≤(x3_1:Int):=qO_;have q103:x3_1 < (l0_0.length:Int):=qO_;obtain⟨ad103,A103_0,c103_0,e103,hx103_0,hl103_0,hi103_0⟩:=at_L22 HR0_0.out x3_1 p103 q103;obtain rfl:ad102=ad103:=(by injection e103)
         replace hx103_0:=qU_ hx103_0;have HR103_0:=zA hi103_0;have HC103_0:=zA hl103_0;clear hi103_0 hl103_0;replace p103:=eq_true p103;replace q103:=eq_true q103;go_wp2;go_roundg k2
         case measure=>have:=HK1.out;have:=HK2.out;omega
         case rel=>exact⟨(wrap64 (x3_1+1)),qF_,H',⟨by have:=HK1.out;have:=HK2.out;omega⟩,⟨by exact BK101.out⟩,⟨qB⟩⟩
        rw[if_neg c13] at H;exact absurd H (by simp)
       rw[if_neg c12] at H;exact absurd H (by simp)
    rw[if_neg c8] at H;exact absurd H (by simp)
   rw[if_neg c7] at H;have c7b0:=zGq c7;clear c7;obtain rfl:=zKq H;have hcz20_0:wr.cell? ⟨gb101,0,none⟩=some (.slice A0_0 l0_0.length c0_0):=(zF BK101.out 0).trans rfl;have hfz20_0:=zG BK101.out 0;go_wp2;go_ret;exact⟨qE,qB⟩
theorem eqA166 (d:Nat) (w:World) (x0 y0:Int) (x1 y1:Int) (x2 y2:Int) (x3 y3:ByteArray):
    (Op.equalIn (d+2) 166 (.agg #[.int .i64 x0,.int .i64 x1,.int .i64 x2,.string x3]) (.agg #[.int .i64 y0,.int .i64 y1,.int .i64 y2,.string y3])).run Try.prog w= .ok (x0==y0&&(x1==y1&&(x2==y2&&(x3.toList==y3.toList)))) w:=by
  refine eqA_of Try.underlying166 (by kernel_rfl) ?_
  refine eqf_cons (by rfl) (by go_simp;rfl) (by go_simp;rfl) (by go_simp) ?_
  refine eqf_cons (by rfl) (by go_simp;rfl) (by go_simp;rfl) (by go_simp) ?_
  refine eqf_cons (by rfl) (by go_simp;rfl) (by go_simp;rfl) (by go_simp) ?_
  exact eqf_last (by rfl) (by go_simp;rfl) (by go_simp;rfl) (by go_simp)
mutual
def aI.l0:Nat→Int→List (List (S164))→Int→List (S169)→Option (Int × (List (S169)))
  |0,_,_,_,_=>none
  |k+1,x4,x102000,x104000,x104001=>if x4 < (x102000.length:Int)then(aI.l1 k x4 0 x102000 x104000 x104001)else(some (x104000,x104001))
def aI.l1:Nat→Int→Int→List (List (S164))→Int→List (S169)→Option (Int × (List (S169)))
  |0,_,_,_,_,_=>none
  |k+1,x4,x5,x102000,x104000,x104001=>if 0≤x4 then(if x4 < (x102000.length:Int)then(if x5 < ((rd_L22 x102000 x4).length:Int)then(if 0≤x5 then(if x104001.length < 4398046511104 then(aI.l1 k x4 (wrap64 (x5+1)) x102000 x104000 (x104001++ [(⟨x4,(rd_T164 (rd_L22 x102000 x4) x5).f0,(rd_T164 (rd_L22 x102000 x4) x5).f1⟩:S169)]))else(none))else(none))else(aI.l0 k (wrap64 (x4+1)) x102000 x104000 x104001))else(none))else(none)
end
def aI.f (k:Nat) (l0_0:List (List (S164))):Option (Int × (List (S169))):=aI.l0 k 0 l0_0 (l0_0.length:Int) ([] :List (S169))
theorem aI.mono_l: ∀ k,(∀ y0 y1 y2 y3,LeO (aI.l0 k y0 y1 y2 y3) (aI.l0 (k+1) y0 y1 y2 y3))∧(∀ y0 y1 y2 y3 y4,LeO (aI.l1 k y0 y1 y2 y3 y4) (aI.l1 (k+1) y0 y1 y2 y3 y4))
  |0=> ⟨fun _ _ _ _ r h=>by simp[aI.l0] at h,fun _ _ _ _ _ r h=>by simp[aI.l1] at h⟩
  |k+1=>by
    obtain⟨ih0,ih1⟩:=aI.mono_l k
    refine⟨?_,?_⟩
    · intro y0 y1 y2 y3
      unfold aI.l0
      repeat' (with_reducible first|exact ih0 _ _ _ _|exact ih1 _ _ _ _ _|exact LeO.refl _|exact LeO.none _|refine LeO.ite ?_ ?_|refine LeO.bind ?_ (fun _=>?_))
    intro y0 y1 y2 y3 y4
    unfold aI.l1
    repeat' (with_reducible first|exact ih0 _ _ _ _|exact ih1 _ _ _ _ _|exact LeO.refl _|exact LeO.none _|refine LeO.ite ?_ ?_|refine LeO.bind ?_ (fun _=>?_))
theorem aI.mono: ∀ a0 k,LeO (aI.f k a0) (aI.f (k+1) a0):=by
  intro a0 k
  obtain⟨ih0,ih1⟩:=aI.mono_l k
  unfold aI.f
  repeat' (with_reducible first|exact ih0 _ _ _ _|exact ih1 _ _ _ _ _|exact LeO.refl _|exact LeO.none _|refine LeO.ite ?_ ?_|refine LeO.bind ?_ (fun _=>?_))
def aI.T8:Bool × List (List Nat × List Nat):=(true,[([],[]),([0],[0]),([],[]),([],[]),([3],[3]),([],[]),([4,5],[4,5]),([6],[6]),([],[]),([7,8],[7,8]),([9],[9]),([10],[10]),([],[]),([12],[12]),([],[]),([13,14],[13,14]),([15],[15]),([],[]),([16,17],[16,17]),([18],[18]),([19],[19]),([2,11,20],[2,11,20]),([21],[21]),([1,22],[1,22]),([0,1,2,3,4,5,6,7,8,9,10,11,12,13,14,15,16,17,18,19,20,21,22,23],[]),([24,23,23,0,1,2,3,4,5,6,7,8,9,10,11,12,13,14,15,16,17,18,19,20,21,22,23],[23,24])])
def aI.B8:List Nat:=[0,1,0,0,8,0,56,120,0,504,1016,2040,0,4096,0,28672,61440,0,258048,520192,1044480,2097148,4194300,8388607,16777215,33554431]
theorem aI.tab8:rtab .any (opsOf Try.f44 8)=aI.T8:=by kernel_rfl
theorem aI.bits8:waitsOk aI.T8.2 aI.B8=true:=by kernel_rfl
theorem aI.calls (k:Nat) (A0_0:Option Addr) (c0_0:Nat) (l0_0:List (List (S164))) (r1:Int) (r2:List (S169)) (w:World) (hr0_0:Kd.C (Kd.slice 164 k164) w A0_0 l0_0.length l0_0) (hc0_0:l0_0.length≤c0_0) (h:aI.f k l0_0=some (r1,r2)):
  Calls Try.prog 44 #[.agg #[.slice A0_0 l0_0.length c0_0]] w fun e w'=> ∃ v1_:Value,e= .returned (.agg #[.int .i64 r1,v1_])∧Kd.R k169 169 w' w.heap.size (fun _=>True) v1_ r2∧Below w.heap.size w w':=by
 have hu75:=Try.underlying75
 have hu82:=Try.underlying82
 have hu169:=Try.underlying169
 have HR0_0:=zA hr0_0
 have HC0_0:=zA hc0_0
 clear hr0_0 hc0_0
 have HB:=zA (Below.refl w.heap.size w)
 have H:(aI.l0 k 0 l0_0 (l0_0.length:Int) ([] :List (S169)))=some (r1,r2):=h
 clear h
 have H':=zA H
 clear H
 go_enter Try.func44,Try.ntmps44
 go_wp2_with (first|((with_reducible refine gate_dst (N:=1) rfl ?_);refine box_event qr (N:=1) qr (cs:= #[.slice A0_0 l0_0.length c0_0]) (t:=75) qg ?_;intro gb101 hg w2 hbox hb;have BK101:=zA (hbox);have GW101:=zA ((qS:w.heap.size≤gb101));have GE101:=zA ((qS:w.heap.size≤gb101));replace HB:=zA (zV qB hb);clear hb hbox hg)|((with_reducible refine gate_dst (N:=2) rfl ?_);refine box_event qr (N:=2) qr (cs:= #[.int .i64 0,.slice none 0 0]) (t:=82) qg ?_;intro gb102 hg w3 hbox hb;have BK102:=zA (hbox);have GW102:=zA ((qS:w.heap.size≤gb102));have GE102:=zA ((qS:w.heap.size≤gb102));replace HB:=zA (zV qB hb);have NB101_102:=zA ((by rw[hg];exact zLq (qL BK101.out):gb101≠gb102));have NB102_101:=zA ((by rw[hg];exact zMq (qL BK101.out):gb102≠gb101));replace BK101:=zA (qX BK101.out hb);clear hb hbox hg;have hnb4:=NB101_102.out;have hnc4:=NB102_101.out;have hcz5_0:w3.cell? ⟨gb101,0,none⟩=some (.slice A0_0 l0_0.length c0_0):=(zF BK101.out 0).trans rfl;have hfz5_0:=zG BK101.out 0)|((with_reducible refine gate_dst (N:=3) rfl ?_);refine box_event qr (N:=3) qr (cs:= #[.int .i64 0,.slice none 0 0]) (t:=82) qg ?_;intro gb103 hg w6 hbox hb;have BK103:=zA (hbox);have GW103:=zA ((qS:w.heap.size≤gb103));have GE103:=zA ((qS:w.heap.size≤gb103));replace HB:=zA (zV qB hb);have NB101_103:=zA ((by rw[hg];exact zLq (qL BK101.out):gb101≠gb103));have NB103_101:=zA ((by rw[hg];exact zMq (qL BK101.out):gb103≠gb101));replace BK101:=zA (qX BK101.out hb);have NB102_103:=zA ((by rw[hg];exact zLq (qL BK102.out):gb102≠gb103));have NB103_102:=zA ((by rw[hg];exact zMq (qL BK102.out):gb103≠gb102));replace BK102:=zA (qX BK102.out hb);clear hb hbox hg;have hnb7:=NB103_101.out;have hnc7:=NB101_103.out;have hnb8:=NB103_102.out;have hnc8:=NB102_103.out;obtain⟨_,_,_,_⟩:=qc2f BK103.out))
 go_loopg[4] k (fun kq v4 w'=> ∃ (x4_1:Int) (x104001_1:List (S169)) (u104001:Value),v4= .int .i64 x4_1∧Aside0 (aI.l0 kq x4_1 l0_0 (l0_0.length:Int) x104001_1=some (r1,r2))∧Aside0 (kq≤k)∧Aside0 (Kd.R k169 169 w' w.heap.size (fun _=>True) u104001 x104001_1)∧Aside0 (w'.heap[gb101]? =some (.cells #[(.slice A0_0 l0_0.length c0_0)] 75 (0,0)))∧Aside0 (w'.heap[gb102]? =some (.cells #[.int .i64 0,(.slice none 0 0)] 82 (0,0)))∧Aside0 (w'.heap[gb103]? =some (.cells #[.int .i64 (l0_0.length:Int),u104001] 82 (0,0)))∧Aside0 (Below w.heap.size w w'))
 case atStart=>exact⟨(0),(([] :List (S169))),(.slice none 0 0),qF_,H',⟨Nat.le_refl _⟩,⟨qN⟩,⟨by(with_reducible repeat(first|refine zY ?_ _|refine zAq ?_|refine zZ ?_ _));refine blk_far ?_ NB101_103.out _;(with_reducible repeat(first|refine zY ?_ _|refine zAq ?_|refine zZ ?_ _));refine blk_far ?_ NB101_103.out _;exact BK101.out⟩,⟨by(with_reducible repeat(first|refine zY ?_ _|refine zAq ?_|refine zZ ?_ _));refine blk_far ?_ NB102_103.out _;(with_reducible repeat(first|refine zY ?_ _|refine zAq ?_|refine zZ ?_ _));refine blk_far ?_ NB102_103.out _;exact BK102.out⟩,⟨by(with_reducible repeat(first|refine zY ?_ _|refine zAq ?_|refine zZ ?_ _));apply qP2;exact BK103.out⟩,⟨qB⟩⟩
 case round=>
  clear H';try clear p2
  try clear c4
  try clear c7
  try clear c8
  try clear hcz5_0
  try clear hfz5_0
  obtain⟨x4_1,x104001_1,u104001,rfl,HA,HK1,HO_104001,BK101,BK102,BK103,HB⟩:=hrel;cases gk with
  |zero=>exact absurd HA.out (by simp[aI.l0])
  |succ k1=>
   have H:=HA.out;clear HA;simp only[aI.l0] at H;by_cases c10:x4_1 < (l0_0.length:Int)
   ·rw[if_pos c10] at H
    have c10b0:=zFq c10;clear c10;have H':=zA H;clear H;have hnb11:=NB101_102.out;have hnc11:=NB102_101.out;have hnb12:=NB101_103.out;have hnc12:=NB103_101.out;have hcz13_0:wr.cell? ⟨gb101,0,none⟩=some (.slice A0_0 l0_0.length c0_0):=(zF BK101.out 0).trans rfl;have hfz13_0:=zG BK101.out 0;go_wp2;go_loopg[5] k1 (fun kq v5 w'=> ∃ (x5_2:Int) (x104001_2:List (S169)) (u104001:Value),v5= .int .i64 x5_2∧Aside0 (aI.l1 kq x4_1 x5_2 l0_0 (l0_0.length:Int) x104001_2=some (r1,r2))∧Aside0 (kq≤k1)∧Aside0 (Kd.R k169 169 w' w.heap.size (fun _=>True) u104001 x104001_2)∧Aside0 (w'.heap[gb101]? =some (.cells #[(.slice A0_0 l0_0.length c0_0)] 75 (0,0)))∧Aside0 (w'.heap[gb102]? =some (.cells #[.int .i64 0,(.slice none 0 0)] 82 (0,0)))∧Aside0 (w'.heap[gb103]? =some (.cells #[.int .i64 (l0_0.length:Int),u104001] 82 (0,0)))∧Aside0 (Below w.heap.size w w'))
    case atStart=>exact⟨(0),(x104001_1),(u104001),qF_,H',⟨Nat.le_refl _⟩,⟨qR_ HO_104001.out⟩,⟨by exact BK101.out⟩,⟨by exact BK102.out⟩,⟨by exact BK103.out⟩,⟨qB⟩⟩
    case round=>
     clear H';try clear c1
     try clear p2
     try clear c4
     try clear c7
     try clear c8
     try clear c10
     try clear c10b0
     try clear c11
     try clear c12
     try clear hcz13_0
     try clear hcz5_0
     try clear hfz13_0
     try clear hfz5_0
     try clear p2
     obtain⟨x5_2,x104001_2,u104001,rfl,HA,HK2,HO_104001,BK101,BK102,BK103,HB⟩:=hrel;cases gk with
     |zero=>exact absurd HA.out (by simp[aI.l1])
     |succ k2=>
      have H:=HA.out;clear HA;simp only[aI.l1] at H;by_cases c14:0≤x4_1
      ·rw[if_pos c14] at H
       have c14b0:=zFq c14;clear c14;by_cases c15:x4_1 < (l0_0.length:Int)
       ·rw[if_pos c15] at H
        have c15b0:=zFq c15;clear c15;by_cases c16:x5_2 < ((rd_L22 l0_0 x4_1).length:Int)
        ·rw[if_pos c16] at H
         have c16b0:=zFq c16;clear c16;by_cases c17:0≤x5_2
         ·rw[if_pos c17] at H
          have c17b0:=zFq c17;clear c17;by_cases c18:x104001_2.length < 4398046511104
          ·rw[if_pos c18] at H
           have LMc18:=zA c18;clear c18;obtain⟨y109,hy109⟩: ∃ y_:List (S169),y_=(x104001_2++ [(⟨x4_1,(rd_T164 (rd_L22 l0_0 x4_1) x5_2).f0,(rd_T164 (rd_L22 l0_0 x4_1) x5_2).f1⟩:S169)]):=⟨_,rfl⟩
           replace H:(aI.l1 k2 x4_1 (wrap64 (x5_2+1)) l0_0 (l0_0.length:Int) y109)=some (r1,r2):=by first|(rw[hy109];with_reducible exact H)|(have H2_:=(Option.bind_some _ _).symm.trans H;rw[hy109];with_reducible exact H2_)|(have H2_:=(Option.bind_some _ _).symm.trans H;with_reducible exact H2_)|with_reducible exact H|(rw[hy109];exact H)|exact H
           have Ny109:=zA hy109;clear hy109;have H':=zA H;clear H;have hnb19:=NB101_102.out;have hnc19:=NB102_101.out;have hnb20:=NB101_103.out;have hnc20:=NB103_101.out;have hcz21_0:wr.cell? ⟨gb101,0,none⟩=some (.slice A0_0 l0_0.length c0_0):=(zF BK101.out 0).trans rfl;have hfz21_0:=zG BK101.out 0;have p104:0≤(x4_1:Int):=qO_;have q104:x4_1 < (l0_0.length:Int):=qO_;obtain⟨ad104,A104_0,c104_0,e104,hx104_0,hl104_0,hi104_0⟩:=at_L22 HR0_0.out x4_1 p104 q104;cases e104
           replace hx104_0:=qU_ hx104_0;have HR104_0:=zA hi104_0;have HC104_0:=zA hl104_0;clear hi104_0 hl104_0;replace p104:=eq_true p104;replace q104:=eq_true q104;try go_wp2
           replace HO_104001:=zA (Kd.R_drew HO_104001.out);replace BK101:=zA (zAq BK101.out);replace BK102:=zA (zAq BK102.out);replace BK103:=zA (zAq BK103.out);replace HB:=zA (zC HB.out);have p105:0≤(x4_1:Int):=qO_;have q105:x4_1 < (l0_0.length:Int):=qO_;obtain⟨ad105,A105_0,c105_0,e105,hx105_0,hl105_0,hi105_0⟩:=at_L22 HR0_0.out x4_1 p105 q105;have hw105_0:=hx105_0;obtain rfl:ad104=ad105:=(by injection e105)
           replace hx105_0:=qU_ hx105_0;have HR105_0:=zA hi105_0;have HC105_0:=zA hl105_0;clear hi105_0 hl105_0;replace p105:=eq_true p105;replace q105:=eq_true q105;have p106:0≤(x5_2:Int):=qO_;have q106:x5_2 < ((rd_L22 l0_0 x4_1).length:Int):=qO_;obtain⟨ad106,e106,hx106_0,hx106_1⟩:=at_T164 HR105_0.out x5_2 p106 q106;have hw106_1:=hx106_1;have hw106_0:=hx106_0;cases e106
           replace hx106_0:=qU_ hx106_0;replace hx106_1:=qU_ hx106_1;replace p106:=eq_true p106;replace q106:=eq_true q106;have p107:0≤(x4_1:Int):=qO_;have q107:x4_1 < (l0_0.length:Int):=qO_;obtain⟨ad107,A107_0,c107_0,e107,hx107_0,hl107_0,hi107_0⟩:=at_L22 HR0_0.out x4_1 p107 q107;have hw107_0:=hx107_0;obtain rfl:ad104=ad107:=(by injection e107)
           replace hx107_0:=qU_ hx107_0;have HR107_0:=zA hi107_0;have HC107_0:=zA hl107_0;clear hi107_0 hl107_0;replace p107:=eq_true p107;replace q107:=eq_true q107;have ea_:=zKq (hx105_0.symm.trans hx107_0);injection ea_ with ea_ en_ ec_
           subst ea_;subst ec_;clear en_;have p108:0≤(x5_2:Int):=qO_;have q108:x5_2 < ((rd_L22 l0_0 x4_1).length:Int):=qO_;obtain⟨ad108,e108,hx108_0,hx108_1⟩:=at_T164 HR107_0.out x5_2 p108 q108;have hw108_1:=hx108_1;have hw108_0:=hx108_0;cases e108
           replace hx108_0:=qU_ hx108_0;replace hx108_1:=qU_ hx108_1;replace p108:=eq_true p108;replace q108:=eq_true q108;refine start_ (n:=26) (S:=fun w'=>w'.cell? ⟨gb103,0,none⟩=some (.int .i64 (l0_0.length:Int))∧w'.cell? ⟨gb103,1,none⟩=some (u104001)∧w'.cell? ⟨gb101,0,none⟩=some (.slice (some ad104) l0_0.length c0_0)∧w'.cell? (ad104.add (x4_1).toNat)=some (.slice (some ad106) (rd_L22 l0_0 x4_1).length c105_0)∧w'.cell? (ad106.add ((x5_2).toNat * 2))=some (.int .i64 ((rd_T164 (rd_L22 l0_0 x4_1) x5_2).f0))∧w'.cell? ⟨(ad106.add ((x5_2).toNat * 2)).block,(ad106.add ((x5_2).toNat * 2)).off+1,none⟩=some (.string ((rd_T164 (rd_L22 l0_0 x4_1) x5_2).f1))∧w'.cell? (ad104.add (x4_1).toNat)=some (.slice (some ad106) (rd_L22 l0_0 x4_1).length c105_0)∧w'.cell? (ad106.add ((x5_2).toNat * 2))=some (.int .i64 ((rd_T164 (rd_L22 l0_0 x4_1) x5_2).f0))∧w'.cell? ⟨(ad106.add ((x5_2).toNat * 2)).block,(ad106.add ((x5_2).toNat * 2)).off+1,none⟩=some (.string ((rd_T164 (rd_L22 l0_0 x4_1) x5_2).f1))) (ds:=[25]) #[O,O,O,O,O,O,O,O,O,O,O,O,O,O,O,O,O,O,O,O,O,O,O,O,O,O] (by kernel_rfl) rfl rfl ⟨(zF BK103.out 0).trans rfl,(zF BK103.out 1).trans rfl,(zF BK101.out 0).trans rfl,(qU_ hw105_0),(qU_ hw106_0),(qU_ hw106_1),(qU_ hw107_0),(qU_ hw108_0),(qU_ hw108_1)⟩ (fun hHeld=>?_);refine with_tabW aI.tab8 aI.bits8 (fun HT_ HW_=>?_);generalize wr.drew=w22 at HO_104001 BK101 BK102 BK103 HB HR105_0 HR107_0 hx105_0 hx106_0 hx106_1 hx107_0 hx108_0 hx108_1 hHeld⊢;refine pure_ (i:=0) (N:=some 27) #[J,O,O,O,O,O,O,O,O,O,O,O,O,O,O,O,O,O,O,O,O,O,O,O,O,O] rfl rfl (any_of HT_.out (by kernel_rfl)) (fun _ _ _ h=>h) (Or.inl ⟨by rfl,qy⟩) qz ?_;refine pure_ (i:=2) (N:=some 29) #[J,O,J,O,O,O,O,O,O,O,O,O,O,O,O,O,O,O,O,O,O,O,O,O,O,O] rfl rfl (any_of HT_.out (by kernel_rfl)) (fun _ _ _ h=>h) (Or.inl ⟨by rfl,qy⟩) qz ?_;refine pure_ (i:=3) (N:=some 30) #[J,O,J,J,O,O,O,O,O,O,O,O,O,O,O,O,O,O,O,O,O,O,O,O,O,O] rfl rfl (any_of HT_.out (by kernel_rfl)) (fun _ _ _ h=>h) (Or.inl ⟨by rfl,qy⟩) qz ?_
           refine pure_ (i:=5) (N:=some 32) #[J,O,J,J,O,J,O,O,O,O,O,O,O,O,O,O,O,O,O,O,O,O,O,O,O,O] rfl rfl (any_of HT_.out (by kernel_rfl)) (fun _ _ _ h=>h) (Or.inl ⟨by rfl,qy⟩) qz ?_;refine pure_ (i:=8) (N:=some 35) #[J,O,J,J,O,J,O,O,J,O,O,O,O,O,O,O,O,O,O,O,O,O,O,O,O,O] rfl rfl (any_of HT_.out (by kernel_rfl)) (fun _ _ _ h=>h) (Or.inl ⟨by rfl,qy⟩) qz ?_;refine pure_ (i:=12) (N:=some 39) #[J,O,J,J,O,J,O,O,J,O,O,O,J,O,O,O,O,O,O,O,O,O,O,O,O,O] rfl rfl (any_of HT_.out (by kernel_rfl)) (fun _ _ _ h=>h) (Or.inl ⟨by rfl,qy⟩) qz ?_;refine pure_ (i:=14) (N:=some 41) #[J,O,J,J,O,J,O,O,J,O,O,O,J,O,J,O,O,O,O,O,O,O,O,O,O,O] rfl rfl (any_of HT_.out (by kernel_rfl)) (fun _ _ _ h=>h) (Or.inl ⟨by rfl,qy⟩) qz ?_;refine pure_ (i:=17) (N:=some 44) #[J,O,J,J,O,J,O,O,J,O,O,O,J,O,J,O,O,J,O,O,O,O,O,O,O,O] rfl rfl (any_of HT_.out (by kernel_rfl)) (fun _ _ _ h=>h) (Or.inl ⟨by rfl,qy⟩) qz ?_;refine take_ (i:=1) (N:=some 28) (v:=?_) (a':=?_) #[J,J,J,J,O,J,O,O,J,O,O,O,J,O,J,O,O,J,O,O,O,O,O,O,O,O] rfl rfl (take_ofW HT_.out HW_.out (by kernel_rfl)) (fun _ _ _ h=>h) (Or.inl ⟨by rfl,?_⟩) hHeld ?_ ?_;rotate_left
           ·rintro w' ⟨s0,s1,s2,s3,s4,s5,s6,s7,s8⟩
            go_simp;with_reducible rfl
           rotate_left
           ·simp only[Act.put,zH,zI,zJ,i64_w,i32_w]
            rfl
           refine take_ (i:=4) (N:=some 31) (v:=?_) (a':=?_) #[J,J,J,J,J,J,O,O,J,O,O,O,J,O,J,O,O,J,O,O,O,O,O,O,O,O] rfl rfl (take_ofW HT_.out HW_.out (by kernel_rfl)) (fun _ _ _ h=>h) (Or.inl ⟨by rfl,?_⟩) hHeld ?_ ?_;rotate_left
           ·rintro w' ⟨s0,s1,s2,s3,s4,s5,s6,s7,s8⟩
            go_simp;with_reducible rfl
           rotate_left
           ·simp only[Act.put,zH,zI,zJ,i64_w,i32_w]
            rfl
           refine pure_ (i:=6) (N:=some 33) #[J,J,J,J,J,J,J,O,J,O,O,O,J,O,J,O,O,J,O,O,O,O,O,O,O,O] rfl rfl (any_of HT_.out (by kernel_rfl)) (fun _ _ _ h=>h) (Or.inl ⟨by rfl,qy⟩) qz ?_;refine take_ (i:=7) (N:=some 34) (v:=?_) (a':=?_) #[J,J,J,J,J,J,J,J,J,O,O,O,J,O,J,O,O,J,O,O,O,O,O,O,O,O] rfl rfl (take_ofW HT_.out HW_.out (by kernel_rfl)) (fun _ _ _ h=>h) (Or.inl ⟨by rfl,?_⟩) hHeld ?_ ?_;rotate_left
           ·rintro w' ⟨s0,s1,s2,s3,s4,s5,s6,s7,s8⟩
            go_simp;with_reducible rfl
           rotate_left
           ·simp only[Act.put,zH,zI,zJ,i64_w,i32_w]
            rfl
           refine pure_ (i:=9) (N:=some 36) #[J,J,J,J,J,J,J,J,J,J,O,O,J,O,J,O,O,J,O,O,O,O,O,O,O,O] rfl rfl (any_of HT_.out (by kernel_rfl)) (fun _ _ _ h=>h) (Or.inl ⟨by rfl,qy⟩) qz ?_;refine pure_ (i:=10) (N:=some 37) #[J,J,J,J,J,J,J,J,J,J,J,O,J,O,J,O,O,J,O,O,O,O,O,O,O,O] rfl rfl (any_of HT_.out (by kernel_rfl)) (fun _ _ _ h=>h) (Or.inl ⟨by rfl,qy⟩) qz ?_;refine take_ (i:=11) (N:=some 38) (v:=?_) (a':=?_) #[J,J,J,J,J,J,J,J,J,J,J,J,J,O,J,O,O,J,O,O,O,O,O,O,O,O] rfl rfl (take_ofW HT_.out HW_.out (by kernel_rfl)) (fun _ _ _ h=>h) (Or.inl ⟨by rfl,?_⟩) hHeld ?_ ?_;rotate_left
           ·rintro w' ⟨s0,s1,s2,s3,s4,s5,s6,s7,s8⟩
            go_simp;with_reducible rfl
           rotate_left
           ·simp only[Act.put,zH,zI,zJ,i64_w,i32_w]
            rfl
           refine take_ (i:=13) (N:=some 40) (v:=?_) (a':=?_) #[J,J,J,J,J,J,J,J,J,J,J,J,J,J,J,O,O,J,O,O,O,O,O,O,O,O] rfl rfl (take_ofW HT_.out HW_.out (by kernel_rfl)) (fun _ _ _ h=>h) (Or.inl ⟨by rfl,?_⟩) hHeld ?_ ?_;rotate_left
           ·rintro w' ⟨s0,s1,s2,s3,s4,s5,s6,s7,s8⟩
            go_simp;with_reducible rfl
           rotate_left
           ·simp only[Act.put,zH,zI,zJ,i64_w,i32_w]
            rfl
           refine pure_ (i:=15) (N:=some 42) #[J,J,J,J,J,J,J,J,J,J,J,J,J,J,J,J,O,J,O,O,O,O,O,O,O,O] rfl rfl (any_of HT_.out (by kernel_rfl)) (fun _ _ _ h=>h) (Or.inl ⟨by rfl,qy⟩) qz ?_;refine take_ (i:=16) (N:=some 43) (v:=?_) (a':=?_) #[J,J,J,J,J,J,J,J,J,J,J,J,J,J,J,J,J,J,O,O,O,O,O,O,O,O] rfl rfl (take_ofW HT_.out HW_.out (by kernel_rfl)) (fun _ _ _ h=>h) (Or.inl ⟨by rfl,?_⟩) hHeld ?_ ?_;rotate_left
           ·rintro w' ⟨s0,s1,s2,s3,s4,s5,s6,s7,s8⟩
            go_simp;with_reducible rfl
           rotate_left
           ·simp only[Act.put,zH,zI,zJ,i64_w,i32_w]
            rfl
           refine pure_ (i:=18) (N:=some 45) #[J,J,J,J,J,J,J,J,J,J,J,J,J,J,J,J,J,J,J,O,O,O,O,O,O,O] rfl rfl (any_of HT_.out (by kernel_rfl)) (fun _ _ _ h=>h) (Or.inl ⟨by rfl,qy⟩) qz ?_;refine pure_ (i:=19) (N:=some 46) #[J,J,J,J,J,J,J,J,J,J,J,J,J,J,J,J,J,J,J,J,O,O,O,O,O,O] rfl rfl (any_of HT_.out (by kernel_rfl)) (fun _ _ _ h=>h) (Or.inl ⟨by rfl,qy⟩) qz ?_;refine take_ (i:=20) (N:=some 47) (v:=?_) (a':=?_) #[J,J,J,J,J,J,J,J,J,J,J,J,J,J,J,J,J,J,J,J,J,O,O,O,O,O] rfl rfl (take_ofW HT_.out HW_.out (by kernel_rfl)) (fun _ _ _ h=>h) (Or.inl ⟨by rfl,?_⟩) hHeld ?_ ?_;rotate_left
           ·rintro w' ⟨s0,s1,s2,s3,s4,s5,s6,s7,s8⟩
            go_simp;with_reducible rfl
           rotate_left
           ·simp only[Act.put,zH,zI,zJ,i64_w,i32_w]
            rfl
           refine pure_ (i:=21) (N:=some 48) #[J,J,J,J,J,J,J,J,J,J,J,J,J,J,J,J,J,J,J,J,J,J,O,O,O,O] rfl rfl (any_of HT_.out (by kernel_rfl)) (fun _ _ _ h=>h) (Or.inl ⟨by rfl,qy⟩) qz ?_;refine one_ (i:=22) (N:=some 49) #[J,J,J,J,J,J,J,J,J,J,J,J,J,J,J,J,J,J,J,J,J,J,J,O,O,O] rfl rfl (one_of HT_.out (by kernel_rfl)) (by decide) (fun K hK=>?_);refine value_ (w1:=?_) (v:=?_) (by rfl) rfl ?_ ?_;rotate_left 2
           ·go_simp
            constructor
            ·rfl
            rfl
           refine hK.out _ _ ⟨(zF (zZ BK103.out _) 0).trans rfl,(zF (zZ BK103.out _) 1).trans rfl,(zF (zZ BK101.out _) 0).trans rfl,(World.cell?_alloc_lt _ _ _ (zCq _ _ ((qU_ hw105_0)))).trans ((qU_ hw105_0)),(World.cell?_alloc_lt _ _ _ (zCq _ _ ((qU_ hw106_0)))).trans ((qU_ hw106_0)),(World.cell?_alloc_lt _ _ _ (zCq _ _ ((qU_ hw106_1)))).trans ((qU_ hw106_1)),(World.cell?_alloc_lt _ _ _ (zCq _ _ ((qU_ hw107_0)))).trans ((qU_ hw107_0)),(World.cell?_alloc_lt _ _ _ (zCq _ _ ((qU_ hw108_0)))).trans ((qU_ hw108_0)),(World.cell?_alloc_lt _ _ _ (zCq _ _ ((qU_ hw108_1)))).trans ((qU_ hw108_1))⟩ (fun hHeld=>?_);clear hK K;refine norm_ (a':=?_) ?_ ?_;rotate_left
           ·show Act.put _ (some 49) _=_
            simp only[Act.put,zH,zI,zJ,i64_w,i32_w];rfl
           refine one_ (i:=23) (N:=some 50) #[J,J,J,J,J,J,J,J,J,J,J,J,J,J,J,J,J,J,J,J,J,J,J,J,O,O] rfl rfl (one_of HT_.out (by kernel_rfl)) (by decide) (fun K hK=>?_);refine Kd.R_append_step k169 (w0:=w) w.heap.size (by rfl) (.tmp 28) (.tmp 49) 80 169 (.agg #[(.int .i64 0),(.int .i64 0),(.string ⟨#[]⟩)]) 32 rfl Try.underlying80 info169 rfl (by decide) (by omega) u104001 x104001_2 (⟨x4_1,(rd_T164 (rd_L22 l0_0 x4_1) x5_2).f0,(rd_T164 (rd_L22 l0_0 x4_1) x5_2).f1⟩:S169) [.int .i64 x4_1,.int .i64 ((rd_T164 (rd_L22 l0_0 x4_1) x5_2).f0),.string ((rd_T164 (rd_L22 l0_0 x4_1) x5_2).f1)] (fun _=>True) (fun _=>False) rfl rfl ?aP (fun _ hk=>hk.elim) ?aF ?aO ?aB ?aS ?aL ?_;(case aP=>exact k169_mkM _ _ _ (⟨x4_1,(rd_T164 (rd_L22 l0_0 x4_1) x5_2).f0,(rd_T164 (rd_L22 l0_0 x4_1) x5_2).f1⟩:S169))
           (case aB=>exact qB)
           (case aF=>exact(fun _ _=>trivial))
           (case aO=>exact(qR_ HO_104001.out))
           (case aS=>exact(zW qB))
           (case aL=>have:=LMc18.out;omega)
           intro v110 w23 ho hb hg hat;rw[←Ny109.out] at ho;replace BK101:=zA (blk_grown (g:=gb101) (o:= .cells #[.slice (some ad104) l0_0.length c0_0] 75 (0,0)) (qW BK101.out) hg (Kd.R_ne HO_104001.out BK101.out (by decide)));replace BK102:=zA (blk_grown (g:=gb102) (o:= .cells #[.int .i64 0,.slice none 0 0] 82 (0,0)) (qW BK102.out) hg (Kd.R_ne HO_104001.out BK102.out (by decide)));replace BK103:=zA (blk_grown (g:=gb103) (o:= .cells #[.int .i64 (l0_0.length:Int),u104001] 82 (0,0)) (qW BK103.out) hg (Kd.R_ne HO_104001.out BK103.out (by decide)));replace HB:=zA (hb);have HO111:=zA (ho);clear HO_104001;clear ho hb hg hat;obtain⟨Ao24,co24,eo24⟩:=Kd.R_slice HO111.out;(first|subst eo24|(injection eo24 with f1_ f2_ f3_;have f4_:=f1_.symm;have f5_:=f3_.symm;clear f1_ f2_ f3_;subst f4_;subst f5_))
           refine hK.out _ _ ⟨(zF BK103.out 0).trans rfl,(zF BK103.out 1).trans rfl,(zF BK101.out 0).trans rfl,(qU_ hw105_0),(qU_ hw106_0),(qU_ hw106_1),(qU_ hw107_0),(qU_ hw108_0),(qU_ hw108_1)⟩ (fun hHeld=>?_);clear hK K;refine norm_ (a':=?_) ?_ ?_;rotate_left
           ·show Act.put _ (some 50) _=_
            simp only[Act.put,zH,zI,zJ,i64_w,i32_w];rfl
           refine pure_ (i:=24) (N:=some 51) #[J,J,J,J,J,J,J,J,J,J,J,J,J,J,J,J,J,J,J,J,J,J,J,J,J,O] rfl rfl (any_of HT_.out (by kernel_rfl)) (fun _ _ _ h=>h) (Or.inl ⟨by rfl,qy⟩) qz ?_;refine last_ (i:=25) (N:=none) #[J,J,J,J,J,J,J,J,J,J,J,J,J,J,J,J,J,J,J,J,J,J,J,J,J,J] rfl rfl (one_of HT_.out (by kernel_rfl)) (by decide) (fun K hK=>?_);have hs25:w23.cell? ⟨gb103,1,none⟩=some (u104001):=(zF BK103.out 1).trans rfl;have hfs25:=zG BK103.out 1;have hns25_0:=NB101_103.out;have hns25_1:=NB102_103.out;have hms25_0:=NB103_101.out;have hms25_1:=NB103_102.out;refine skip_ (w1:=?_) (by rfl) rfl ?_ ?_;rotate_left
           ·go_simp
            rfl
           refine hK.out _ _ ?_;clear hK K;refine done_ (done_of HT_.out (by kernel_rfl)) ?_;try go_wp2
           go_roundg k2
           case measure=>have:=HK1.out;have:=HK2.out;omega
           case rel=>exact⟨(wrap64 (x5_2+1)),(y109),(.slice Ao24 y109.length co24),qF_,H',⟨by have:=HK1.out;have:=HK2.out;omega⟩,⟨by(with_reducible repeat(first|apply Kd.R_alloc|apply Kd.R_drewN|apply Kd.R_drew));exact Kd.R_mono (Kd.R_far (p:=⟨gb103,1,none⟩) (Kd.R_types HO111.out BK103.out (by decide)) (fun _ hk=>hk.2) (.slice Ao24 y109.length co24)) (fun _ hk=>trivial)⟩,⟨by(with_reducible repeat(first|refine zY ?_ _|refine zAq ?_|refine zZ ?_ _));refine blk_far ?_ NB101_103.out _;exact BK101.out⟩,⟨by(with_reducible repeat(first|refine zY ?_ _|refine zAq ?_|refine zZ ?_ _));refine blk_far ?_ NB102_103.out _;exact BK102.out⟩,⟨by(with_reducible repeat(first|refine zY ?_ _|refine zAq ?_|refine zZ ?_ _));refine blk_put (cs:= #[.int .i64 (l0_0.length:Int),u104001]) ?_ 1 _ rfl;exact BK103.out⟩,⟨qB⟩⟩
          rw[if_neg c18] at H;exact absurd H (by simp)
         rw[if_neg c17] at H;exact absurd H (by simp)
        rw[if_neg c16] at H;have c16b0:=zGq c16;clear c16;have H':=zA H;clear H;have hnb26:=NB101_102.out;have hnc26:=NB102_101.out;have hnb27:=NB101_103.out;have hnc27:=NB103_101.out;have hcz28_0:wr.cell? ⟨gb101,0,none⟩=some (.slice A0_0 l0_0.length c0_0):=(zF BK101.out 0).trans rfl;have hfz28_0:=zG BK101.out 0;have p104:0≤(x4_1:Int):=qO_;have q104:x4_1 < (l0_0.length:Int):=qO_;obtain⟨ad104,A104_0,c104_0,e104,hx104_0,hl104_0,hi104_0⟩:=at_L22 HR0_0.out x4_1 p104 q104;cases e104
        replace hx104_0:=qU_ hx104_0;have HR104_0:=zA hi104_0;have HC104_0:=zA hl104_0;clear hi104_0 hl104_0;replace p104:=eq_true p104;replace q104:=eq_true q104;go_wp2;go_roundg k2
        case measure=>have:=HK1.out;have:=HK2.out;omega
        case rel=>exact⟨(wrap64 (x4_1+1)),(x104001_2),(u104001),qF_,H',⟨by have:=HK1.out;have:=HK2.out;omega⟩,⟨qR_ HO_104001.out⟩,⟨by exact BK101.out⟩,⟨by exact BK102.out⟩,⟨by exact BK103.out⟩,⟨qB⟩⟩
       rw[if_neg c15] at H;exact absurd H (by simp)
      rw[if_neg c14] at H;exact absurd H (by simp)
   rw[if_neg c10] at H;have c10b0:=zGq c10;clear c10;simp only[zNq,zOq] at H;obtain⟨rfl,rfl⟩:=H;have hnb29:=NB101_102.out;have hnc29:=NB102_101.out;have hnb30:=NB101_103.out;have hnc30:=NB103_101.out;have hcz31_0:wr.cell? ⟨gb101,0,none⟩=some (.slice A0_0 l0_0.length c0_0):=(zF BK101.out 0).trans rfl;have hfz31_0:=zG BK101.out 0;have hnb32:=NB103_102.out;have hnc32:=NB102_103.out;obtain⟨_,_,_,_⟩:=qc2f BK103.out;obtain⟨_,_,_,_⟩:=qc2f BK102.out;obtain⟨Ao35,co35,eo35⟩:=Kd.R_slice HO_104001.out;subst eo35;go_wp2;refine bodyPost_ret (results_cell_row rfl _ _ gb102 82 #[.int .i64 (l0_0.length:Int),.slice Ao35 x104001_1.length co35] (0,0) _ rfl (qV BK102.out) Try.underlying82 rfl (by kernel_rfl)) rfl ?_;exact⟨_,qE,by(with_reducible repeat(first|apply Kd.R_alloc|apply Kd.R_drewN|apply Kd.R_drew));exact Kd.R_mono (Kd.R_far (p:=⟨gb102,1,none⟩) (Kd.R_far (p:=⟨gb102,0,none⟩) (Kd.R_types HO_104001.out BK102.out (by decide)) (fun _ hk=>hk.2) (.int .i64 (l0_0.length:Int))) (fun _ hk=>hk.2) (.slice Ao35 x104001_1.length co35)) (fun _ hk=>trivial),qB⟩
def bT.l0:Nat→List Int→List (S164)→Int→Int→Option (List Int)
  |0,_,_,_,_=>none
  |k+1,x3,x9,x10,x11=>if x11 < x10 then(if 0≤x11 then(if x11 < (x9.length:Int)then(if x11 < (x3.length:Int)then(bT.l0 k (x3.set (x11:Int).toNat ((rd_T164 x9 x11).f0)) x9 x10 (wrap64 (x11+1)))else(none))else(none))else(none))else(some x3)
def bT.f (k:Nat) (l0:List (S164)):Option (List Int):=if 0≤(l0.length:Int)then(if((l0.length:Int):Int).toNat≤35184372088832 then(bT.l0 k (List.replicate ((l0.length:Int):Int).toNat 0) l0 (l0.length:Int) 0)else(none))else(none)
theorem bT.mono_l: ∀ k,(∀ y0 y1 y2 y3,LeO (bT.l0 k y0 y1 y2 y3) (bT.l0 (k+1) y0 y1 y2 y3))
  |0=>fun _ _ _ _ r h=>by simp[bT.l0] at h
  |k+1=>by
    have ih0:=bT.mono_l k
    intro y0 y1 y2 y3
    unfold bT.l0
    repeat' (with_reducible first|exact ih0 _ _ _ _|exact LeO.refl _|exact LeO.none _|refine LeO.ite ?_ ?_|refine LeO.bind ?_ (fun _=>?_))
theorem bT.mono: ∀ a0 k,LeO (bT.f k a0) (bT.f (k+1) a0):=by
  intro a0 k
  have ih0:=bT.mono_l k
  unfold bT.f
  repeat' (with_reducible first|exact ih0 _ _ _ _|exact LeO.refl _|exact LeO.none _|refine LeO.ite ?_ ?_|refine LeO.bind ?_ (fun _=>?_))
theorem bT.calls (k:Nat) (A0:Option Addr) (c0:Nat) (l0:List (S164)) (r:List Int) (w:World) (hr0:Kd.C k164 w A0 l0.length l0) (hc0:l0.length≤c0) (h:bT.f k l0=some r):
  Calls Try.prog 105 #[.slice A0 l0.length c0] w fun e w'=> ∃ v0_:Value,e= .returned (v0_)∧Kd.R (Kd.int .i64) 3 w' w.heap.size (fun _=>True) v0_ r∧Below w.heap.size w w':=by
 have hu164:=Try.underlying164
 have HR0:=zA hr0
 have HC0:=zA hc0
 clear hr0 hc0
 have HB:=zA (Below.refl w.heap.size w)
 have H:(if 0≤(l0.length:Int)then(if((l0.length:Int):Int).toNat≤35184372088832 then(bT.l0 k (List.replicate ((l0.length:Int):Int).toNat 0) l0 (l0.length:Int) 0)else(none))else(none))=some r:=h
 clear h
 by_cases c2:0≤(l0.length:Int)
 ·rw[if_pos c2] at H
  have c2b0:=eq_true c2;have c2b1:=zFq c2;clear c2;by_cases c3:((l0.length:Int):Int).toNat≤35184372088832
  ·rw[if_pos c3] at H
   have c3b0:=eq_true c3;have c3b1:=zFq c3;clear c3;obtain⟨y101,hy101⟩: ∃ y_:List Int,y_=(List.replicate ((l0.length:Int):Int).toNat 0):=⟨_,rfl⟩
   replace H:(bT.l0 k y101 l0 (l0.length:Int) 0)=some r:=by first|(rw[hy101];with_reducible exact H)|(have H2_:=(Option.bind_some _ _).symm.trans H;rw[hy101];with_reducible exact H2_)|(have H2_:=(Option.bind_some _ _).symm.trans H;with_reducible exact H2_)|with_reducible exact H|(rw[hy101];exact H)|exact H
   have Ny101:=zA hy101;clear hy101;have H':=zA H;clear H;go_enter Try.func105,Try.ntmps105;go_wp2_with (first|((with_reducible refine gate_dst (N:=8) rfl ?_);refine Kd.R_make (Kd.int .i64) _ 3 rfl (N:=8) rfl 44 _ _ rfl (l0.length:Int) rfl rfl Try.underlying44 (.int .i64 0) 8 info3 rfl (by decide) (by omega) 0 (ok:=fun _=>True) (okp:=fun _=>True) rfl (fun _ hk=>hk) trivial (qO_) (Nat.le_trans (Nat.mul_le_mul_right _ (qO_:(l0.length:Int).toNat≤35184372088832)) (by omega)) (Below.refl _ _) (Nat.le_refl _) ?_;intro v102 w4 ho5 hb hg_ hnew_;clear hg_ hnew_;(first|rw[←Ny101.out] at ho5|(simp only[Int.reduceToNat] at ho5;rw[←Ny101.out] at ho5));have HO103:=zA (Kd.R_lower ho5 (zW qB));replace HB:=zA (zV qB hb);clear hb ho5));go_loopg[11] k (fun kq v11 w'=> ∃ (x3_1:List Int) (x11_1:Int),v11= .int .i64 x11_1∧Aside0 (bT.l0 kq x3_1 l0 (l0.length:Int) x11_1=some r)∧Aside0 (kq≤k)∧Aside0 (Kd.R (Kd.int .i64) 3 w' w.heap.size (fun _=>True) v102 x3_1)∧Aside0 (Below w.heap.size w w'))
   case atStart=>exact⟨(y101),(0),qF_,H',⟨Nat.le_refl _⟩,⟨qR_ HO103.out⟩,⟨qB⟩⟩
   case round=>
    clear H';try clear c1
    try clear c2
    try clear c2b0
    try clear c2b1
    try clear p2
    try clear c3
    try clear c3b0
    try clear c3b1
    obtain⟨x3_1,x11_1,rfl,HA,HK1,HO_3,HB⟩:=hrel;cases gk with
    |zero=>exact absurd HA.out (by simp[bT.l0])
    |succ k1=>
     have H:=HA.out;clear HA;simp only[bT.l0] at H;by_cases c6:x11_1 < (l0.length:Int)
     ·rw[if_pos c6] at H
      have c6b0:=zFq c6;clear c6;by_cases c7:0≤x11_1
      ·rw[if_pos c7] at H
       have c7b0:=zFq c7;clear c7;by_cases c8:x11_1 < (l0.length:Int)
       ·rw[if_pos c8] at H
        have c8b0:=zFq c8;clear c8;by_cases c9:x11_1 < (x3_1.length:Int)
        ·rw[if_pos c9] at H
         have c9b0:=zFq c9;clear c9;obtain⟨y106,hy106⟩: ∃ y_:List Int,y_=(x3_1.set (x11_1:Int).toNat ((rd_T164 l0 x11_1).f0)):=⟨_,rfl⟩
         replace H:(bT.l0 k1 y106 l0 (l0.length:Int) (wrap64 (x11_1+1)))=some r:=by first|(rw[hy106];with_reducible exact H)|(have H2_:=(Option.bind_some _ _).symm.trans H;rw[hy106];with_reducible exact H2_)|(have H2_:=(Option.bind_some _ _).symm.trans H;with_reducible exact H2_)|with_reducible exact H|(rw[hy106];exact H)|exact H
         have Ny106:=zA hy106;clear hy106;have H':=zA H;clear H;have p104:0≤(x11_1:Int):=qO_;have q104:x11_1 < (l0.length:Int):=qO_;obtain⟨ad104,e104,hx104_0,hx104_1⟩:=at_T164 HR0.out x11_1 p104 q104;cases e104
         replace hx104_0:=qU_ hx104_0;replace hx104_1:=qU_ hx104_1;replace p104:=eq_true p104;replace q104:=eq_true q104;go_wp2_with (first|((with_reducible refine gate_dst (N:=5) rfl ?_);refine box_event qr (N:=5) qr (cs:= #[.int .i64 0,.string (⟨#[]⟩:ByteArray)]) (t:=164) qg ?_;intro gb105 hg w11 hbox hb;replace HO_3:=zA (Kd.R_below (qR_ HO_3.out) hb);have BK105:=zA (hbox);have GW105:=zA ((qS:w.heap.size≤gb105));have GE105:=zA ((qS:w.heap.size≤gb105));replace HB:=zA (zV qB hb);clear hb hbox hg;obtain⟨_,_,_,_⟩:=qc2f BK105.out)|((with_reducible refine gate_store (t:=164) (p:=5) rfl ?_);refine store_event (t:=164) (p:=5) (v:=?vo_w13) (w1:=((w11.setCell ⟨gb105,0,none⟩ (.int .i64 ((rd_T164 l0 x11_1).f0))).setCell ⟨gb105,1,none⟩ (.string ((rd_T164 l0 x11_1).f1)))) ?hg ?ho ?hn ?hr ?_;(case ho=>rfl);(case hg=>rfl);(case hn=>rfl);(case hr=>first|(go_simp;done)|(go_simp;rfl));intro w13 hw;have n0_:Aside0 (Kd.R (Kd.int .i64) 3 w13 w.heap.size (fun _=>True) v102 x3_1):=⟨(by rw[hw];exact(by(with_reducible repeat(first|apply Kd.R_alloc|apply Kd.R_drewN|apply Kd.R_drew));exact Kd.R_mono (Kd.R_far (p:=⟨gb105,1,none⟩) (Kd.R_far (p:=⟨gb105,0,none⟩) (Kd.R_types HO_3.out BK105.out (by decide)) (fun _ hk=>hk.2) (.int .i64 ((rd_T164 l0 x11_1).f0))) (fun _ hk=>hk.2) (.string ((rd_T164 l0 x11_1).f1))) (fun _ hk=>trivial)))⟩;have n1_:Aside0 (w13.heap[gb105]? =some (.cells #[.int .i64 ((rd_T164 l0 x11_1).f0),.string ((rd_T164 l0 x11_1).f1)] 164 (0,0))):=⟨(by rw[hw];exact(qV BK105.out))⟩;have n2_:Aside0 (Below w.heap.size w w13):=⟨(by rw[hw];exact qB)⟩;clear hw HO_3 BK105 HB;have HO_3:=n0_;have BK105:=n1_;have HB:=n2_;clear n0_ n1_ n2_;obtain⟨_,_,_,_⟩:=qc2f BK105.out;have p10:0≤(x11_1:Int):=qO_;have q10:(x11_1:Int) < ((x3_1.length:Int):Int):=qO_;obtain⟨go10,co10,eo10,gb10,gl10,cl10,HG10⟩:=Kd.R_form HO_3.out (by omega);(first|cases eo10|(injection eo10 with ea_ en_ ec_;(first|subst ea_|(injection ea_ with ea_;subst ea_));subst ec_;clear en_));have GB10:=zA gb10;have GG10:=zA HG10;clear gb10 gl10 HG10;obtain⟨hx10_0,hf10_0⟩:=Kd.R_celln 0 HO_3.out (x11_1:Int) p10 q10;replace p10:=eq_true p10;replace q10:=eq_true q10;obtain⟨hy15_,hz15_⟩:=Kd.R_celln 0 HO_3.out (x11_1:Int) (qO_) (qO_);have HP15:=Kd.R_putg HO_3.out (x11_1:Int) ((rd_T164 l0 x11_1).f0))|((with_reducible refine gate_store (t:=3) (p:=20) rfl ?_);refine store_event (t:=3) (p:=20) (v:=?vo_w16) (w1:=(w13.setCell ⟨go10,(x11_1:Int).toNat,none⟩ (.int .i64 ((rd_T164 l0 x11_1).f0)))) ?hg ?ho ?hn ?hr ?_;(case ho=>rfl);(case hg=>rfl);(case hn=>rfl);(case hr=>first|(go_simp;done)|(go_simp;rfl));intro w16 hw;have hg:w13.grownBy w16 (some go10):=(by rw[hw];exact HP15.2);have hp_:Kd.R (Kd.int .i64) 3 w16 w.heap.size (fun _=>True) (.slice (some ⟨go10,0,none⟩) x3_1.length co10) y106:=(by rw[hw,Ny106.out];exact HP15.1);clear HP15;replace BK105:=zA (blk_grown (g:=gb105) (o:= .cells #[.int .i64 ((rd_T164 l0 x11_1).f0),.string ((rd_T164 l0 x11_1).f1)] 164 (0,0)) (qW BK105.out) hg (Kd.R_ne HO_3.out BK105.out (by decide)));replace HO_3:=zA (hp_);replace HB:=zA ((by rw[hw];exact zE (HB.out) GB10.out:Below w.heap.size w w16));clear hg hw hp_))
         go_roundg k1
         case measure=>have:=HK1.out;omega
         case rel=>exact⟨(y106),(wrap64 (x11_1+1)),qF_,H',⟨by have:=HK1.out;omega⟩,⟨qR_ HO_3.out⟩,⟨qB⟩⟩
        rw[if_neg c9] at H;exact absurd H (by simp)
       rw[if_neg c8] at H;exact absurd H (by simp)
      rw[if_neg c7] at H;exact absurd H (by simp)
     rw[if_neg c6] at H;have c6b0:=zGq c6;clear c6;obtain rfl:=zKq H;go_wp2;go_ret;exact⟨_,qE,qR_ HO_3.out,qB⟩
  rw[if_neg c3] at H;exact absurd H (by simp)
 rw[if_neg c2] at H
 exact absurd H (by simp)
def cW.f (a0_0:Int) (a0_1:ByteArray):Option (Bool):=some (decide ((a0_1.size:Int) > 200))
theorem cW.calls (a0_0:Int) (a0_1:ByteArray) (r:Bool) (w:World) (h:cW.f a0_0 a0_1=some r):
  Calls Try.prog 104 #[.agg #[.int .i64 a0_0,.string a0_1]] w fun e w'=>e= .returned (.bool r)∧Below w.heap.size w w':=by
 have hu164:=Try.underlying164
 have HB:=zA (Below.refl w.heap.size w)
 have H:(some (decide ((a0_1.size:Int) > 200)))=some r:=h
 clear h
 obtain rfl:=zKq H
 go_enter Try.func104,Try.ntmps104
 go_wp2_with (first|((with_reducible refine gate_dst (N:=1) rfl ?_);refine box_event qr (N:=1) qr (cs:= #[.int .i64 a0_0,.string a0_1]) (t:=164) qg ?_;intro gb101 hg w2 hbox hb;have BK101:=zA (hbox);have GW101:=zA ((qS:w.heap.size≤gb101));have GE101:=zA ((qS:w.heap.size≤gb101));replace HB:=zA (zV qB hb);clear hb hbox hg;obtain⟨_,_,_,_⟩:=qc2f BK101.out))
 go_ret
 exact⟨qE,qB⟩
def aM.l0:Nat→List (S164)→Int→Int→Option (Int)
  |0,_,_,_=>none
  |k+1,x0,x7,x8=>if x8 < x7 then(if 0≤x8 then(if x8 < (x0.length:Int)then((cW.f ((rd_T164 x0 x8).f0) ((rd_T164 x0 x8).f1)).bind fun t102=> (if t102=true then(some x8)else(aM.l0 k x0 x7 (wrap64 (x8+1)))))else(none))else(none))else(some (-1))
def aM.f (k:Nat) (l0:List (S164)):Option (Int):=aM.l0 k l0 (l0.length:Int) 0
theorem aM.mono_l: ∀ k,(∀ y0 y1 y2,LeO (aM.l0 k y0 y1 y2) (aM.l0 (k+1) y0 y1 y2))
  |0=>fun _ _ _ r h=>by simp[aM.l0] at h
  |k+1=>by
    have ih0:=aM.mono_l k
    intro y0 y1 y2
    unfold aM.l0
    repeat' (with_reducible first|exact ih0 _ _ _|exact LeO.refl _|exact LeO.none _|refine LeO.ite ?_ ?_|refine LeO.bind ?_ (fun _=>?_))
theorem aM.mono: ∀ a0 k,LeO (aM.f k a0) (aM.f (k+1) a0):=by
  intro a0 k
  have ih0:=aM.mono_l k
  unfold aM.f
  repeat' (with_reducible first|exact ih0 _ _ _|exact LeO.refl _|exact LeO.none _|refine LeO.ite ?_ ?_|refine LeO.bind ?_ (fun _=>?_))
theorem aM.calls (k:Nat) (A0:Option Addr) (c0:Nat) (l0:List (S164)) (r:Int) (w:World) (hr0:Kd.C k164 w A0 l0.length l0) (hc0:l0.length≤c0) (h:aM.f k l0=some r):
  Calls Try.prog 147 #[.slice A0 l0.length c0,.func (.func 104) #[] #[]] w fun e w'=>e= .returned (.int .i64 r)∧Below w.heap.size w w':=by
 have hu164:=Try.underlying164
 have HR0:=zA hr0
 have HC0:=zA hc0
 clear hr0 hc0
 have HB:=zA (Below.refl w.heap.size w)
 have H:(aM.l0 k l0 (l0.length:Int) 0)=some r:=h
 clear h
 have H':=zA H
 clear H
 go_enter Try.func147,Try.ntmps147
 go_wp2
 go_loopg[8] k (fun kq v8 w'=> ∃ (x8_1:Int),v8= .int .i64 x8_1∧Aside0 (aM.l0 kq l0 (l0.length:Int) x8_1=some r)∧Aside0 (kq≤k)∧Aside0 (Below w.heap.size w w'))
 case atStart=>exact⟨(0),qF_,H',⟨Nat.le_refl _⟩,⟨qB⟩⟩
 case round=>
  clear H';try clear p2
  obtain⟨x8_1,rfl,HA,HK1,HB⟩:=hrel;cases gk with
  |zero=>exact absurd HA.out (by simp[aM.l0])
  |succ k1=>
   have H:=HA.out;clear HA;simp only[aM.l0] at H;by_cases c3:x8_1 < (l0.length:Int)
   ·rw[if_pos c3] at H
    have c3b0:=zFq c3;clear c3;by_cases c4:0≤x8_1
    ·rw[if_pos c4] at H
     have c4b0:=zFq c4;clear c4;by_cases c5:x8_1 < (l0.length:Int)
     ·rw[if_pos c5] at H
      have c5b0:=zFq c5;clear c5;obtain⟨t102,A6,H⟩:=qD_ H;(try dsimp only at H);by_cases c7:t102=true
      ·subst c7
       have H1:(some x8_1)=some r:=by first|(rw[if_pos rfl] at H;exact H)|rfl
       clear H;have H:=H1;clear H1;obtain rfl:=zKq H;have p101:0≤(x8_1:Int):=qO_;have q101:x8_1 < (l0.length:Int):=qO_;obtain⟨ad101,e101,hx101_0,hx101_1⟩:=at_T164 HR0.out x8_1 p101 q101;cases e101
       replace hx101_0:=qU_ hx101_0;replace hx101_1:=qU_ hx101_1;replace p101:=eq_true p101;replace q101:=eq_true q101;go_wp2_with (first|(go_at_call 104;(with_reducible refine(cW.calls ((rd_T164 l0 x8_1).f0) ((rd_T164 l0 x8_1).f1) true _ A6.out).mono ?_);rintro e w8 ⟨rfl,hb⟩;replace HB:=zA (zV qB hb);(try clear hb)));go_ret;exact⟨qE,qB⟩
      replace c7:=Bool.eq_false_iff.mpr c7;subst c7;have H1:(aM.l0 k1 l0 (l0.length:Int) (wrap64 (x8_1+1)))=some r:=by first|(rw[if_neg (show ¬ (false=true) by decide)] at H;exact H)|rfl
      clear H;have H:=H1;clear H1;have H':=zA H;clear H;have p101:0≤(x8_1:Int):=qO_;have q101:x8_1 < (l0.length:Int):=qO_;obtain⟨ad101,e101,hx101_0,hx101_1⟩:=at_T164 HR0.out x8_1 p101 q101;cases e101
      replace hx101_0:=qU_ hx101_0;replace hx101_1:=qU_ hx101_1;replace p101:=eq_true p101;replace q101:=eq_true q101;go_wp2_with (first|(go_at_call 104;(with_reducible refine(cW.calls ((rd_T164 l0 x8_1).f0) ((rd_T164 l0 x8_1).f1) false _ A6.out).mono ?_);rintro e w9 ⟨rfl,hb⟩;replace HB:=zA (zV qB hb);(try clear hb)));go_roundg k1
      case measure=>have:=HK1.out;omega
      case rel=>exact⟨(wrap64 (x8_1+1)),qF_,H',⟨by have:=HK1.out;omega⟩,⟨qB⟩⟩
     rw[if_neg c5] at H;exact absurd H (by simp)
    rw[if_neg c4] at H;exact absurd H (by simp)
   rw[if_neg c3] at H;have c3b0:=zGq c3;clear c3;obtain rfl:=zKq H;go_wp2;go_ret;exact⟨qE,qB⟩
def bM.f (k:Nat) (l0:List (S164)):Option (Bool):=(aM.f k l0).bind fun t101=> (some (decide (t101≥0)))
theorem bM.mono: ∀ a0 k,LeO (bM.f k a0) (bM.f (k+1) a0):=by
  intro a0 k
  unfold bM.f
  repeat' (with_reducible first|exact aM.mono _ _|exact LeO.refl _|exact LeO.none _|refine LeO.ite ?_ ?_|refine LeO.bind ?_ (fun _=>?_))
theorem bM.calls (k:Nat) (A0:Option Addr) (c0:Nat) (l0:List (S164)) (r:Bool) (w:World) (hr0:Kd.C k164 w A0 l0.length l0) (hc0:l0.length≤c0) (h:bM.f k l0=some r):
  Calls Try.prog 106 #[.slice A0 l0.length c0,.func (.func 104) #[] #[]] w fun e w'=>e= .returned (.bool r)∧Below w.heap.size w w':=by
 have HR0:=zA hr0
 have HC0:=zA hc0
 clear hr0 hc0
 have HB:=zA (Below.refl w.heap.size w)
 have H:((aM.f k l0).bind fun t101=> (some (decide (t101≥0))))=some r:=h
 clear h
 obtain⟨t101,A3,H⟩:=qD_ H
 (try dsimp only at H)
 obtain rfl:=zKq H
 go_enter Try.func106,Try.ntmps106
 go_wp2_with (first|(go_at_call 147;(with_reducible refine(aM.calls k _ _ l0 t101 _ ?side1 ?side2 A3.out).mono ?_);(case side1=>repeat(first|exact HR0.out|(with_reducible refine Kd.C_alloc ?_ _)|(with_reducible refine Kd.C_drewN ?_ _)|(with_reducible refine Kd.C_drew ?_)));(case side2=>exact HC0.out);rintro e w4 ⟨rfl,hb⟩;replace HB:=zA (zV qB hb);(try clear hb)))
 go_ret
 exact⟨qE,qB⟩
mutual
def bH.l0:Nat→Int→List Int→Int→Int→Option (Int)
  |0,_,_,_,_=>none
  |k+1,x3,x6,x7,x8=>if x8 < x7 then(if 0≤x8 then(if x8 < (x6.length:Int)then(if(rd x6 x8) < 1 then(bH.j1 k x3 (rd x6 x8) x6 x7 x8 true)else(bH.j1 k x3 (rd x6 x8) x6 x7 x8 (decide ((rd x6 x8) > 999999))))else(none))else(none))else(some 0)
def bH.j1:Nat→Int→Int→List Int→Int→Int→Bool→Option (Int)
  |0,_,_,_,_,_,_=>none
  |k+1,x3,x5,x6,x7,x8,x12=>if x12=true then(some 31)else(if x5≤x3 then(some 32)else(bH.l0 k x5 x6 x7 (wrap64 (x8+1))))
end
def bH.f (k:Nat) (l0:List Int):Option (Int):=bH.l0 k 0 l0 (l0.length:Int) 0
theorem bH.mono_l: ∀ k,(∀ y0 y1 y2 y3,LeO (bH.l0 k y0 y1 y2 y3) (bH.l0 (k+1) y0 y1 y2 y3))∧(∀ y0 y1 y2 y3 y4 y5,LeO (bH.j1 k y0 y1 y2 y3 y4 y5) (bH.j1 (k+1) y0 y1 y2 y3 y4 y5))
  |0=> ⟨fun _ _ _ _ r h=>by simp[bH.l0] at h,fun _ _ _ _ _ _ r h=>by simp[bH.j1] at h⟩
  |k+1=>by
    obtain⟨ih0,ih1⟩:=bH.mono_l k
    refine⟨?_,?_⟩
    · intro y0 y1 y2 y3
      unfold bH.l0
      repeat' (with_reducible first|exact ih0 _ _ _ _|exact ih1 _ _ _ _ _ _|exact LeO.refl _|exact LeO.none _|refine LeO.ite ?_ ?_|refine LeO.bind ?_ (fun _=>?_))
    intro y0 y1 y2 y3 y4 y5
    unfold bH.j1
    repeat' (with_reducible first|exact ih0 _ _ _ _|exact ih1 _ _ _ _ _ _|exact LeO.refl _|exact LeO.none _|refine LeO.ite ?_ ?_|refine LeO.bind ?_ (fun _=>?_))
theorem bH.mono: ∀ a0 k,LeO (bH.f k a0) (bH.f (k+1) a0):=by
  intro a0 k
  obtain⟨ih0,ih1⟩:=bH.mono_l k
  unfold bH.f
  repeat' (with_reducible first|exact ih0 _ _ _ _|exact ih1 _ _ _ _ _ _|exact LeO.refl _|exact LeO.none _|refine LeO.ite ?_ ?_|refine LeO.bind ?_ (fun _=>?_))
theorem bH.calls (k:Nat) (A0:Option Addr) (c0:Nat) (l0:List Int) (r:Int) (w:World) (hr0:Kd.C (Kd.int .i64) w A0 l0.length l0) (hc0:l0.length≤c0) (h:bH.f k l0=some r):
  Calls Try.prog 83 #[.slice A0 l0.length c0] w fun e w'=>e= .returned (.int .i64 r)∧Drawn0 w w':=by
 have HR0:=zA hr0
 have HC0:=zA hc0
 clear hr0 hc0
 have H:(bH.l0 k 0 l0 (l0.length:Int) 0)=some r:=h
 clear h
 have H':=zA H
 clear H
 go_enter Try.func83,Try.ntmps83
 go_wp2
 go_loopg[3,8] k (fun kq v3 v8 w'=> ∃ (x3_1:Int) (x8_1:Int),v3= .int .i64 x3_1∧v8= .int .i64 x8_1∧Aside0 (bH.l0 kq x3_1 l0 (l0.length:Int) x8_1=some r)∧Aside0 (kq≤k)∧Drawn0 w w')
 case atStart=>exact⟨(0),(0),qF_,qF_,H',⟨Nat.le_refl _⟩,by repeat(first|exact Drawn0.refl _|apply Drawn0.step)⟩
 case round=>
  clear H';obtain⟨x3_1,x8_1,rfl,rfl,HA,HK1,⟨m1,rfl⟩⟩:=hrel;cases gk with
  |zero=>exact absurd HA.out (by simp[bH.l0])
  |succ k1=>
   have H:=HA.out;clear HA;simp only[bH.l0] at H;by_cases c2:x8_1 < (l0.length:Int)
   ·rw[if_pos c2] at H
    have c2b0:=zFq c2;clear c2;by_cases c3:0≤x8_1
    ·rw[if_pos c3] at H
     have c3b0:=zFq c3;clear c3;by_cases c4:x8_1 < (l0.length:Int)
     ·rw[if_pos c4] at H
      have c4b0:=zFq c4;clear c4;have HC5:=zA H;clear H;have p101:0≤(x8_1:Int):=qO_;have q101:x8_1 < (l0.length:Int):=qO_;obtain⟨ad101,e101,hx101_0⟩:=Kd.at_int HR0.out x8_1 p101 q101;cases e101
      replace p101:=eq_true p101;replace q101:=eq_true q101;go_upto_region 5 with(fail)
      go_cut[12] (fun v12 wc=> ∃ (kq:Nat) (x12_4:Bool),v12= .bool x12_4∧Aside0 (bH.j1 kq x3_1 (rd l0 x8_1) l0 (l0.length:Int) x8_1 x12_4=some r)∧Aside0 (kq≤k1)∧Drawn0 w wc)
      case first=>
       have H:=HC5.out;clear HC5;by_cases c6:(rd l0 x8_1) < 1
       ·rw[if_pos c6] at H
        have c6b0:=zFq c6;clear c6;(first|rw[c6b0] |(simp only[i64_w,i32_w];rw[c6b0])|skip)
        have H':=zA H;clear H;go_wp2;go_meet
        case rel=>exact⟨_,(true),qF_,H',⟨by have:=HK1.out;first|omega|exact Nat.le_refl _⟩,by repeat(first|exact Drawn0.refl _|apply Drawn0.step)⟩
       rw[if_neg c6] at H;have c6b0:=zGq c6;clear c6;(first|rw[c6b0] |(simp only[i64_w,i32_w];rw[c6b0])|skip)
       have H':=zA H;clear H;go_wp2;go_meet
       case rel=>exact⟨_,(decide ((rd l0 x8_1) > 999999)),qF_,H',⟨by have:=HK1.out;first|omega|exact Nat.le_refl _⟩,by repeat(first|exact Drawn0.refl _|apply Drawn0.step)⟩
      case rest=>
       clear HC5;try clear p1
       try clear q1
       try clear hx1
       try clear c2
       try clear c2b0
       try clear p2
       try clear c3
       try clear c3b0
       try clear c4
       try clear c4b0
       try clear c6
       try clear c6b0
       try clear hx101_0
       try clear p101
       try clear q101
       obtain⟨kq,x12_4,rfl,HA,HJ4,⟨mc4,rfl⟩⟩:=hcut;cases kq with
       |zero=>exact absurd HA.out (by simp[bH.j1])
       |succ kj4=>
        have H:=HA.out;clear HA;simp only[bH.j1] at H;by_cases c7:x12_4=true
        ·subst c7
         have H1:(some 31)=some r:=by first|(rw[if_pos rfl] at H;exact H)|rfl
         clear H;have H:=H1;clear H1;obtain rfl:=zKq H;go_wp2;go_ret;exact⟨by first|rfl|(simp;done)|(simp[*];done),by repeat(first|exact Drawn0.refl _|apply Drawn0.step)⟩
        replace c7:=Bool.eq_false_iff.mpr c7;subst c7;have H1:(if(rd l0 x8_1)≤x3_1 then(some 32)else(bH.l0 kj4 (rd l0 x8_1) l0 (l0.length:Int) (wrap64 (x8_1+1))))=some r:=by first|(rw[if_neg (show ¬ (false=true) by decide)] at H;exact H)|rfl
        clear H;have H:=H1;clear H1;by_cases c8:(rd l0 x8_1)≤x3_1
        ·rw[if_pos c8] at H
         have c8b0:=zFq c8;clear c8;obtain rfl:=zKq H;go_wp2;go_ret;exact⟨by first|rfl|(simp;done)|(simp[*];done),by repeat(first|exact Drawn0.refl _|apply Drawn0.step)⟩
        rw[if_neg c8] at H;have c8b0:=zGq c8;clear c8;have H':=zA H;clear H;go_wp2;go_roundg kj4
        case measure=>have:=HK1.out;have:=HJ4.out;omega
        case rel=>exact⟨((rd l0 x8_1)),(wrap64 (x8_1+1)),qF_,qF_,H',⟨by have:=HK1.out;have:=HJ4.out;omega⟩,by repeat(first|exact Drawn0.refl _|apply Drawn0.step)⟩
     rw[if_neg c4] at H;exact absurd H (by simp)
    rw[if_neg c3] at H;exact absurd H (by simp)
   rw[if_neg c2] at H;have c2b0:=zGq c2;clear c2;obtain rfl:=zKq H;go_wp2;go_ret;exact⟨by first|rfl|(simp;done)|(simp[*];done),by repeat(first|exact Drawn0.refl _|apply Drawn0.step)⟩
def aU.l0:Nat→List (List (S164))→Int→Int→Option (Int)
  |0,_,_,_=>none
  |k+1,x11,x12,x13=>if x13 < x12 then(if 0≤x13 then(if x13 < (x11.length:Int)then(if((rd_L22 x11 x13).length:Int) > 60 then(some 40)else((bT.f k (rd_L22 x11 x13)).bind fun t103=> ((bH.f k t103).bind fun t106=> (if t106=0 then((bM.f k (rd_L22 x11 x13)).bind fun t107=> (if t107=true then(some 40)else(aU.l0 k x11 x12 (wrap64 (x13+1)))))else(some 40)))))else(none))else(none))else(some 0)
def aU.f (k:Nat) (l0_0:List (List (S164))):Option (Int):=if(l0_0.length:Int) > 8 then(some 40)else(aU.l0 k l0_0 (l0_0.length:Int) 0)
theorem aU.mono_l: ∀ k,(∀ y0 y1 y2,LeO (aU.l0 k y0 y1 y2) (aU.l0 (k+1) y0 y1 y2))
  |0=>fun _ _ _ r h=>by simp[aU.l0] at h
  |k+1=>by
    have ih0:=aU.mono_l k
    intro y0 y1 y2
    unfold aU.l0
    repeat' (with_reducible first|exact ih0 _ _ _|exact bT.mono _ _|exact bH.mono _ _|exact bM.mono _ _|exact LeO.refl _|exact LeO.none _|refine LeO.ite ?_ ?_|refine LeO.bind ?_ (fun _=>?_))
theorem aU.mono: ∀ a0 k,LeO (aU.f k a0) (aU.f (k+1) a0):=by
  intro a0 k
  have ih0:=aU.mono_l k
  unfold aU.f
  repeat' (with_reducible first|exact ih0 _ _ _|exact bT.mono _ _|exact bH.mono _ _|exact bM.mono _ _|exact LeO.refl _|exact LeO.none _|refine LeO.ite ?_ ?_|refine LeO.bind ?_ (fun _=>?_))
theorem aU.calls (k:Nat) (A0_0:Option Addr) (c0_0:Nat) (l0_0:List (List (S164))) (r:Int) (w:World) (hr0_0:Kd.C (Kd.slice 164 k164) w A0_0 l0_0.length l0_0) (hc0_0:l0_0.length≤c0_0) (h:aU.f k l0_0=some r):
  Calls Try.prog 52 #[.agg #[.slice A0_0 l0_0.length c0_0]] w fun e w'=>e= .returned (.int .i64 r)∧Below w.heap.size w w':=by
 have hu75:=Try.underlying75
 have HR0_0:=zA hr0_0
 have HC0_0:=zA hc0_0
 clear hr0_0 hc0_0
 have HB:=zA (Below.refl w.heap.size w)
 have H:(if(l0_0.length:Int) > 8 then(some 40)else(aU.l0 k l0_0 (l0_0.length:Int) 0))=some r:=h
 clear h
 by_cases c2:(l0_0.length:Int) > 8
 ·rw[if_pos c2] at H
  have c2b0:decide (8 < (l0_0.length:Int))=true:=zFq c2;have c2b1:decide (8 < l0_0.length)=true:=zFq (by omega);clear c2;obtain rfl:=zKq H;go_enter Try.func52,Try.ntmps52;go_wp2_with (first|((with_reducible refine gate_dst (N:=1) rfl ?_);refine box_event qr (N:=1) qr (cs:= #[.slice A0_0 l0_0.length c0_0]) (t:=75) qg ?_;intro gb101 hg w3 hbox hb;have BK101:=zA (hbox);have GW101:=zA ((qS:w.heap.size≤gb101));have GE101:=zA ((qS:w.heap.size≤gb101));replace HB:=zA (zV qB hb);clear hb hbox hg;have hcz4_0:w3.cell? ⟨gb101,0,none⟩=some (.slice A0_0 l0_0.length c0_0):=(zF BK101.out 0).trans rfl;have hfz4_0:=zG BK101.out 0));go_ret;exact⟨qE,qB⟩
 rw[if_neg c2] at H
 have c2b0:decide (8 < (l0_0.length:Int))=false:=zGq c2
 have c2b1:decide (8 < l0_0.length)=false:=zGq (by omega)
 clear c2
 have H':=zA H
 clear H
 go_enter Try.func52,Try.ntmps52
 go_wp2_with (first|((with_reducible refine gate_dst (N:=1) rfl ?_);refine box_event qr (N:=1) qr (cs:= #[.slice A0_0 l0_0.length c0_0]) (t:=75) qg ?_;intro gb101 hg w5 hbox hb;have BK101:=zA (hbox);have GW101:=zA ((qS:w.heap.size≤gb101));have GE101:=zA ((qS:w.heap.size≤gb101));replace HB:=zA (zV qB hb);clear hb hbox hg;have hcz6_0:w5.cell? ⟨gb101,0,none⟩=some (.slice A0_0 l0_0.length c0_0):=(zF BK101.out 0).trans rfl;have hfz6_0:=zG BK101.out 0))
 go_loopg[13] k (fun kq v13 w'=> ∃ (x13_1:Int),v13= .int .i64 x13_1∧Aside0 (aU.l0 kq l0_0 (l0_0.length:Int) x13_1=some r)∧Aside0 (kq≤k)∧Aside0 (w'.heap[gb101]? =some (.cells #[(.slice A0_0 l0_0.length c0_0)] 75 (0,0)))∧Aside0 (Below w.heap.size w w'))
 case atStart=>exact⟨(0),qF_,H',⟨Nat.le_refl _⟩,⟨by exact BK101.out⟩,⟨qB⟩⟩
 case round=>
  clear H';try clear c2
  try clear c2b0
  try clear c2b1
  try clear p2
  try clear c5
  try clear hcz4_0
  try clear hcz6_0
  try clear hfz4_0
  try clear hfz6_0
  obtain⟨x13_1,rfl,HA,HK1,BK101,HB⟩:=hrel;cases gk with
  |zero=>exact absurd HA.out (by simp[aU.l0])
  |succ k1=>
   have H:=HA.out;clear HA;simp only[aU.l0] at H;by_cases c7:x13_1 < (l0_0.length:Int)
   ·rw[if_pos c7] at H
    have c7b0:=zFq c7;clear c7;by_cases c8:0≤x13_1
    ·rw[if_pos c8] at H
     have c8b0:=zFq c8;clear c8;by_cases c9:x13_1 < (l0_0.length:Int)
     ·rw[if_pos c9] at H
      have c9b0:=zFq c9;clear c9;by_cases c10:((rd_L22 l0_0 x13_1).length:Int) > 60
      ·rw[if_pos c10] at H
       have c10b0:decide (60 < ((rd_L22 l0_0 x13_1).length:Int))=true:=zFq c10;have c10b1:decide (60 < (rd_L22 l0_0 x13_1).length)=true:=zFq (by omega);clear c10;obtain rfl:=zKq H;have p102:0≤(x13_1:Int):=qO_;have q102:x13_1 < (l0_0.length:Int):=qO_;obtain⟨ad102,A102_0,c102_0,e102,hx102_0,hl102_0,hi102_0⟩:=at_L22 HR0_0.out x13_1 p102 q102;cases e102
       replace hx102_0:=qU_ hx102_0;have HR102_0:=zA hi102_0;have HC102_0:=zA hl102_0;clear hi102_0 hl102_0;replace p102:=eq_true p102;replace q102:=eq_true q102;go_wp2;go_ret;exact⟨qE,qB⟩
      rw[if_neg c10] at H;have c10b0:decide (60 < ((rd_L22 l0_0 x13_1).length:Int))=false:=zGq c10;have c10b1:decide (60 < (rd_L22 l0_0 x13_1).length)=false:=zGq (by omega);clear c10;obtain⟨t103,A11,H⟩:=qD_ H;(try dsimp only at H);obtain⟨t106,A12,H⟩:=qD_ H;(try dsimp only at H);by_cases c13:t106=0
      ·rw[if_pos c13] at H
       have c13b0:(t106==0)=true:=beq_iff_eq.mpr c13;have c13b1:(t106 != 0)=false:=bne_eq_false_iff_eq.mpr c13;clear c13;obtain⟨t107,A14,H⟩:=qD_ H;(try dsimp only at H);by_cases c15:t107=true
       ·subst c15
        have H1:(some 40)=some r:=by first|(rw[if_pos rfl] at H;exact H)|rfl
        clear H;have H:=H1;clear H1;obtain rfl:=zKq H;have p102:0≤(x13_1:Int):=qO_;have q102:x13_1 < (l0_0.length:Int):=qO_;obtain⟨ad102,A102_0,c102_0,e102,hx102_0,hl102_0,hi102_0⟩:=at_L22 HR0_0.out x13_1 p102 q102;cases e102
        replace hx102_0:=qU_ hx102_0;have HR102_0:=zA hi102_0;have HC102_0:=zA hl102_0;clear hi102_0 hl102_0;replace p102:=eq_true p102;replace q102:=eq_true q102;go_wp2_with (first|(go_at_call 105;(with_reducible refine(bT.calls k1 _ _ (rd_L22 l0_0 x13_1) t103 _ ?side1 ?side2 A11.out).mono ?_);(case side1=>exact qC (Kd.C_below HR102_0.out HB.out));(case side2=>exact HC102_0.out);rintro e w16 ⟨v104,rfl,ho0,hb⟩;have HO105:=zA (Kd.R_lower ho0 (zW qB));replace BK101:=zA (qX BK101.out hb);replace HB:=zA (zV qB hb);(try clear hb);(try clear ho0);obtain⟨Ao17,co17,eo17⟩:=Kd.R_slice HO105.out;subst eo17)|(go_at_call 83;(with_reducible refine(bH.calls k1 _ _ t103 t106 _ ?side1 ?side2 A12.out).mono ?_);(case side1=>repeat(first|exact(Kd.R_reads' HO105.out).2.2|(with_reducible refine Kd.C_alloc ?_ _)|(with_reducible refine Kd.C_drewN ?_ _)|(with_reducible refine Kd.C_drew ?_)));(case side2=>exact(Kd.R_reads' HO105.out).2.1);rintro e w' ⟨rfl,⟨nd,rfl⟩⟩)|(go_at_call 106;(with_reducible refine(bM.calls k1 _ _ (rd_L22 l0_0 x13_1) true _ ?side1 ?side2 A14.out).mono ?_);(case side1=>exact qC (Kd.C_below HR102_0.out qB));(case side2=>exact HC102_0.out);rintro e w18 ⟨rfl,hb⟩;replace HO105:=zA (Kd.R_below (qR_ HO105.out) hb);replace BK101:=zA (qX BK101.out hb);replace HB:=zA (zV qB hb);(try clear hb)));go_ret;exact⟨qE,qB⟩
       replace c15:=Bool.eq_false_iff.mpr c15;subst c15;have H1:(aU.l0 k1 l0_0 (l0_0.length:Int) (wrap64 (x13_1+1)))=some r:=by first|(rw[if_neg (show ¬ (false=true) by decide)] at H;exact H)|rfl
       clear H;have H:=H1;clear H1;have H':=zA H;clear H;have p102:0≤(x13_1:Int):=qO_;have q102:x13_1 < (l0_0.length:Int):=qO_;obtain⟨ad102,A102_0,c102_0,e102,hx102_0,hl102_0,hi102_0⟩:=at_L22 HR0_0.out x13_1 p102 q102;cases e102
       replace hx102_0:=qU_ hx102_0;have HR102_0:=zA hi102_0;have HC102_0:=zA hl102_0;clear hi102_0 hl102_0;replace p102:=eq_true p102;replace q102:=eq_true q102;go_wp2_with (first|(go_at_call 105;(with_reducible refine(bT.calls k1 _ _ (rd_L22 l0_0 x13_1) t103 _ ?side1 ?side2 A11.out).mono ?_);(case side1=>exact qC (Kd.C_below HR102_0.out HB.out));(case side2=>exact HC102_0.out);rintro e w19 ⟨v104,rfl,ho0,hb⟩;have HO105:=zA (Kd.R_lower ho0 (zW qB));replace BK101:=zA (qX BK101.out hb);replace HB:=zA (zV qB hb);(try clear hb);(try clear ho0);obtain⟨Ao20,co20,eo20⟩:=Kd.R_slice HO105.out;subst eo20)|(go_at_call 83;(with_reducible refine(bH.calls k1 _ _ t103 t106 _ ?side1 ?side2 A12.out).mono ?_);(case side1=>repeat(first|exact(Kd.R_reads' HO105.out).2.2|(with_reducible refine Kd.C_alloc ?_ _)|(with_reducible refine Kd.C_drewN ?_ _)|(with_reducible refine Kd.C_drew ?_)));(case side2=>exact(Kd.R_reads' HO105.out).2.1);rintro e w' ⟨rfl,⟨nd,rfl⟩⟩)|(go_at_call 106;(with_reducible refine(bM.calls k1 _ _ (rd_L22 l0_0 x13_1) false _ ?side1 ?side2 A14.out).mono ?_);(case side1=>exact qC (Kd.C_below HR102_0.out qB));(case side2=>exact HC102_0.out);rintro e w21 ⟨rfl,hb⟩;replace HO105:=zA (Kd.R_below (qR_ HO105.out) hb);replace BK101:=zA (qX BK101.out hb);replace HB:=zA (zV qB hb);(try clear hb)));go_roundg k1
       case measure=>have:=HK1.out;omega
       case rel=>exact⟨(wrap64 (x13_1+1)),qF_,H',⟨by have:=HK1.out;omega⟩,⟨by exact BK101.out⟩,⟨qB⟩⟩
      rw[if_neg c13] at H;have c13b0:(t106==0)=false:=beq_eq_false_iff_ne.mpr c13;have c13b1:(t106 != 0)=true:=bne_iff_ne.mpr c13;obtain rfl:=zKq H;have p102:0≤(x13_1:Int):=qO_;have q102:x13_1 < (l0_0.length:Int):=qO_;obtain⟨ad102,A102_0,c102_0,e102,hx102_0,hl102_0,hi102_0⟩:=at_L22 HR0_0.out x13_1 p102 q102;cases e102
      replace hx102_0:=qU_ hx102_0;have HR102_0:=zA hi102_0;have HC102_0:=zA hl102_0;clear hi102_0 hl102_0;replace p102:=eq_true p102;replace q102:=eq_true q102;go_wp2_with (first|(go_at_call 105;(with_reducible refine(bT.calls k1 _ _ (rd_L22 l0_0 x13_1) t103 _ ?side1 ?side2 A11.out).mono ?_);(case side1=>exact qC (Kd.C_below HR102_0.out HB.out));(case side2=>exact HC102_0.out);rintro e w22 ⟨v104,rfl,ho0,hb⟩;have HO105:=zA (Kd.R_lower ho0 (zW qB));replace BK101:=zA (qX BK101.out hb);replace HB:=zA (zV qB hb);(try clear hb);(try clear ho0);obtain⟨Ao23,co23,eo23⟩:=Kd.R_slice HO105.out;subst eo23)|(go_at_call 83;(with_reducible refine(bH.calls k1 _ _ t103 t106 _ ?side1 ?side2 A12.out).mono ?_);(case side1=>repeat(first|exact(Kd.R_reads' HO105.out).2.2|(with_reducible refine Kd.C_alloc ?_ _)|(with_reducible refine Kd.C_drewN ?_ _)|(with_reducible refine Kd.C_drew ?_)));(case side2=>exact(Kd.R_reads' HO105.out).2.1);rintro e w' ⟨rfl,⟨nd,rfl⟩⟩));go_ret;exact⟨qE,qB⟩
     rw[if_neg c9] at H;exact absurd H (by simp)
    rw[if_neg c8] at H;exact absurd H (by simp)
   rw[if_neg c7] at H;have c7b0:=zGq c7;clear c7;obtain rfl:=zKq H;go_wp2;go_ret;exact⟨qE,qB⟩
def cG.f (l0:List (List (S164))):Option (List (List (S164))):=if l0.length < 5864062014805 then some l0 else none
theorem cG.calls (P0_:Nat→Prop) (A0:Option Addr) (c0:Nat) (l0:List (List (S164))) (r:List (List (S164))) (w:World) (hs0:Kd.V (Kd.slice 164 k164) 162 w w.heap.size (fun k_=>P0_ k_) (.slice A0 l0.length c0) l0) (h:cG.f l0=some r):
  Calls Try.prog 96 #[.slice A0 l0.length c0] w fun e w'=> ∃ v0_:Value,e= .returned (v0_)∧Kd.N (Kd.slice 164 k164) 162 w' w.heap.size (fun k_=> (P0_ k_∨w.heap.size≤k_)) v0_ r∧Below w.heap.size w w':=by
 unfold cG.f at h
 by_cases h3:l0.length < 5864062014805
 ·rw[if_pos h3] at h
  simp only[zNq] at h;subst h;have hinf:=info162;have hn:=fun(W:World)=>Lib.run_eql_slice_nil (P:=Try.prog) W 73 162 A0 l0.length c0 0 0 Try.underlying73
  have hv:=Kd.V_reads' hs0;have HR0:=zA (Kd.F_bound (Kd.V_F hs0));have H3:=zA h3;have HI:=zA hinf;have HE:Aside0 (Kd.N (Kd.slice 164 k164) 162 (w.alloc (.cells #[] 162)) w.heap.size (fun k_=> (P0_ k_∨w.heap.size≤k_)) (.slice (some ⟨w.heap.size,0,none⟩) 0 0) []):=⟨⟨fun k hk=> .inr (Nat.le_of_eq (by simpa [Value.ownBlock] using hk)),[],rfl,Kd.raw_tight (R_empty_lit (Kd.raw ((Kd.slice 164 k164)).sz) 162 w),fun j x c hx=>by simp at hx⟩⟩
  have h0:A0=none→l0=[] :=fun hA=>by
   rcases Nat.eq_zero_or_pos l0.length with h0|h0
   ·exact List.eq_nil_of_length_eq_zero h0
   obtain⟨ad,h,_⟩:=hv.2.2.2.2 h0;rw[hA] at h;cases h
  have H0:=zA h0;clear hs0 h3 hinf hv h0;cases A0 with
  |none=>
   have H00:=zA (H0.out rfl);clear H0;go_enter Try.func96,Try.ntmps96;go_wp2;go_ret;exact⟨_,rfl,by rw[H00.out];exact Kd.N_nil _ _ _ _ _,by first|exact Below.refl _ _|exact zB (Below.refl _ _) _⟩
  |some ad=>
   go_enter Try.func96,Try.ntmps96;go_wp2_with (first
    |(at_builtin;refine Kd.N_append_rows (Kd.slice 164 k164) (w0:=w) w.heap.size rfl (.tmp 5) (.tmp 6) 73 162 _ _ rfl Try.underlying73 HI.out rfl (by decide) (by decide) (.slice (some ⟨w.heap.size,0,none⟩) 0 0) [] l0 (some ad) l0.length c0 (fun k_=> (P0_ k_∨w.heap.size≤k_)) (fun k_=>P0_ k_∧k_ < w.heap.size) rfl rfl ?d0 ?d1 ?d2 ?d5 ?d6 ?d7 ?d3 ?d4;(case d0=>exact HE.out);(case d1=>exact Kd.F_alloc HR0.out _);(case d2=>exact fun k hk=> ⟨.inl hk.1,fun he=>absurd (show k=w.heap.size by simpa [Value.ownBlock] using he) (zLq hk.2)⟩);(case d5=>exact fun k hk=> .inr (Nat.le_trans (Nat.le_succ _) (by simpa using hk)));(case d6=>exact zD (Below.refl _ _) _);(case d7=>simp);(case d3=>simp only[List.length_nil];have:=H3.out;omega);intro v2 w2 ho2 hb2 hg2 ha2;have HO2:=zA ho2;have HB2:=zA hb2;clear ho2 hb2 hg2 ha2))
   go_ret;exact⟨v2,by first|rfl|(simp;rfl),by simpa using HO2.out,HB2.out⟩
 rw[if_neg h3] at h;cases h
def cI.f (a0:Int):Option (Bool):=some (a0 != a0)
theorem cI.calls (a0:Int) (r:Bool) (w:World) (h:cI.f a0=some r):
  Calls Try.prog 171 #[.int .i64 a0] w fun e w'=>e= .returned (.bool r)∧Drawn0 w w':=by
 have H:(some (a0 != a0))=some r:=h
 clear h
 obtain rfl:=zKq H
 go_enter Try.func171,Try.ntmps171
 go_wp2
 go_ret
 exact⟨by first|rfl|(simp;done)|(simp[*];done),by repeat(first|exact Drawn0.refl _|apply Drawn0.step)⟩
def cU.f (a0:Int) (a1:Int):Option (Bool):=(cI.f a0).bind fun t101=> (if t101=true then((cI.f a1).bind fun t102=> (if t102=true then(some (decide (a0 < a1)))else(some true)))else(some (decide (a0 < a1))))
theorem cU.calls (a0:Int) (a1:Int) (r:Bool) (w:World) (h:cU.f a0 a1=some r):
  Calls Try.prog 158 #[.int .i64 a0,.int .i64 a1] w fun e w'=>e= .returned (.bool r)∧Drawn0 w w':=by
 have H:((cI.f a0).bind fun t101=> (if t101=true then((cI.f a1).bind fun t102=> (if t102=true then(some (decide (a0 < a1)))else(some true)))else(some (decide (a0 < a1)))))=some r:=h
 clear h
 obtain⟨t101,A3,H⟩:=qD_ H
 (try dsimp only at H)
 by_cases c4:t101=true
 ·subst c4
  have H1:((cI.f a1).bind fun t102=> (if t102=true then(some (decide (a0 < a1)))else(some true)))=some r:=by first|(rw[if_pos rfl] at H;exact H)|rfl
  clear H;have H:=H1;clear H1;obtain⟨t102,A5,H⟩:=qD_ H;(try dsimp only at H);by_cases c6:t102=true
  ·subst c6
   have H1:(some (decide (a0 < a1)))=some r:=by first|(rw[if_pos rfl] at H;exact H)|rfl
   clear H;have H:=H1;clear H1;obtain rfl:=zKq H;go_enter Try.func158,Try.ntmps158;go_wp2_with (first|((with_reducible refine zJq (f:=171) rfl ?_);refine goesL_ (some 6) rfl rfl Try.func171 (by kernel_rfl) rfl #[.int .i64 a0] rfl qG ?_;(with_reducible refine(cI.calls a0 true _ A3.out).mono ?_);rintro e w' ⟨rfl,⟨nd,rfl⟩⟩;refine⟨_,rfl,?_⟩)|(go_at_call 171;(with_reducible refine(cI.calls a1 true _ A5.out).mono ?_);rintro e w' ⟨rfl,⟨nd,rfl⟩⟩));go_ret;exact⟨by first|rfl|(simp;done)|(simp[*];done),by repeat(first|exact Drawn0.refl _|apply Drawn0.step)⟩
  replace c6:=Bool.eq_false_iff.mpr c6;subst c6;have H1:(some true)=some r:=by first|(rw[if_neg (show ¬ (false=true) by decide)] at H;exact H)|rfl
  clear H;have H:=H1;clear H1;obtain rfl:=zKq H;go_enter Try.func158,Try.ntmps158;go_wp2_with (first|((with_reducible refine zJq (f:=171) rfl ?_);refine goesL_ (some 6) rfl rfl Try.func171 (by kernel_rfl) rfl #[.int .i64 a0] rfl qG ?_;(with_reducible refine(cI.calls a0 true _ A3.out).mono ?_);rintro e w' ⟨rfl,⟨nd,rfl⟩⟩;refine⟨_,rfl,?_⟩)|(go_at_call 171;(with_reducible refine(cI.calls a1 false _ A5.out).mono ?_);rintro e w' ⟨rfl,⟨nd,rfl⟩⟩));go_ret;exact⟨by first|rfl|(simp;done)|(simp[*];done),by repeat(first|exact Drawn0.refl _|apply Drawn0.step)⟩
 replace c4:=Bool.eq_false_iff.mpr c4
 subst c4
 have H1:(some (decide (a0 < a1)))=some r:=by first|(rw[if_neg (show ¬ (false=true) by decide)] at H;exact H)|rfl
 clear H
 have H:=H1
 clear H1
 obtain rfl:=zKq H
 go_enter Try.func158,Try.ntmps158
 go_wp2_with (first|((with_reducible refine zJq (f:=171) rfl ?_);refine goesL_ (some 6) rfl rfl Try.func171 (by kernel_rfl) rfl #[.int .i64 a0] rfl qG ?_;(with_reducible refine(cI.calls a0 false _ A3.out).mono ?_);rintro e w' ⟨rfl,⟨nd,rfl⟩⟩;refine⟨_,rfl,?_⟩))
 go_ret
 exact⟨by first|rfl|(simp;done)|(simp[*];done),by repeat(first|exact Drawn0.refl _|apply Drawn0.step)⟩
def cL.f (a0:Int):Option (Bool):=some (a0 != a0)
theorem cL.calls (a0:Int) (r:Bool) (w:World) (h:cL.f a0=some r):
  Calls Try.prog 159 #[.int .i64 a0] w fun e w'=>e= .returned (.bool r)∧Drawn0 w w':=by
 have H:(some (a0 != a0))=some r:=h
 clear h
 obtain rfl:=zKq H
 go_enter Try.func159,Try.ntmps159
 go_wp2
 go_ret
 exact⟨by first|rfl|(simp;done)|(simp[*];done),by repeat(first|exact Drawn0.refl _|apply Drawn0.step)⟩
def aK.l0:Nat→List Int→Int→Int→Int→Int→Option (Int × Bool)
  |0,_,_,_,_,_=>none
  |k+1,x0,x1,x6,x7,x8=>if x7 < x8 then(if 0≤(wrap64 ((IntKind.u64.wrap (wrap64 (x7+x8))) / 2))then(if(wrap64 ((IntKind.u64.wrap (wrap64 (x7+x8))) / 2)) < (x0.length:Int)then((cU.f (rd x0 (wrap64 ((IntKind.u64.wrap (wrap64 (x7+x8))) / 2))) x1).bind fun t102=> (if t102=true then(aK.l0 k x0 x1 x6 (wrap64 ((wrap64 ((IntKind.u64.wrap (wrap64 (x7+x8))) / 2))+1)) x8)else(aK.l0 k x0 x1 x6 x7 (wrap64 ((IntKind.u64.wrap (wrap64 (x7+x8))) / 2)))))else(none))else(none))else(if x7 < x6 then(if 0≤x7 then(if x7 < (x0.length:Int)then(if(rd x0 x7)=x1 then(some (x7,true))else((cL.f (rd x0 x7)).bind fun t105=> (if t105=true then((cL.f x1).bind fun t106=> (some (x7,t106)))else(some (x7,false)))))else(none))else(none))else(some (x7,false)))
def aK.f (k:Nat) (l0:List Int) (a1:Int):Option (Int × Bool):=aK.l0 k l0 a1 (l0.length:Int) 0 (l0.length:Int)
theorem aK.mono_l: ∀ k,(∀ y0 y1 y2 y3 y4,LeO (aK.l0 k y0 y1 y2 y3 y4) (aK.l0 (k+1) y0 y1 y2 y3 y4))
  |0=>fun _ _ _ _ _ r h=>by simp[aK.l0] at h
  |k+1=>by
    have ih0:=aK.mono_l k
    intro y0 y1 y2 y3 y4
    unfold aK.l0
    repeat' (with_reducible first|exact ih0 _ _ _ _ _|exact LeO.refl _|exact LeO.none _|refine LeO.ite ?_ ?_|refine LeO.bind ?_ (fun _=>?_))
theorem aK.mono: ∀ a0 a1 k,LeO (aK.f k a0 a1) (aK.f (k+1) a0 a1):=by
  intro a0 a1 k
  have ih0:=aK.mono_l k
  unfold aK.f
  repeat' (with_reducible first|exact ih0 _ _ _ _ _|exact LeO.refl _|exact LeO.none _|refine LeO.ite ?_ ?_|refine LeO.bind ?_ (fun _=>?_))
theorem aK.calls (k:Nat) (A0:Option Addr) (c0:Nat) (l0:List Int) (a1:Int) (r1:Int) (r2:Bool) (w:World) (hr0:Kd.C (Kd.int .i64) w A0 l0.length l0) (hc0:l0.length≤c0) (h:aK.f k l0 a1=some (r1,r2)):
  Calls Try.prog 133 #[.slice A0 l0.length c0,.int .i64 a1] w fun e w'=>e= .returned (.tuple #[.int .i64 r1,.bool r2])∧Drawn0 w w':=by
 have HR0:=zA hr0
 have HC0:=zA hc0
 clear hr0 hc0
 have H:(aK.l0 k l0 a1 (l0.length:Int) 0 (l0.length:Int))=some (r1,r2):=h
 clear h
 have H':=zA H
 clear H
 go_enter Try.func133,Try.ntmps133
 go_wp2
 go_loopg[7,8] k (fun kq v7 v8 w'=> ∃ (x7_1:Int) (x8_1:Int),v7= .int .i64 x7_1∧v8= .int .i64 x8_1∧Aside0 (aK.l0 kq l0 a1 (l0.length:Int) x7_1 x8_1=some (r1,r2))∧Aside0 (kq≤k)∧Drawn0 w w')
 case atStart=>exact⟨(0),((l0.length:Int)),qF_,qF_,H',⟨Nat.le_refl _⟩,by repeat(first|exact Drawn0.refl _|apply Drawn0.step)⟩
 case round=>
  clear H';try clear c1
  try clear p2
  obtain⟨x7_1,x8_1,rfl,rfl,HA,HK1,⟨m1,rfl⟩⟩:=hrel;cases gk with
  |zero=>exact absurd HA.out (by simp[aK.l0])
  |succ k1=>
   have H:=HA.out;clear HA;simp only[aK.l0] at H;by_cases c3:x7_1 < x8_1
   ·rw[if_pos c3] at H
    have c3b0:=zFq c3;clear c3;obtain⟨ji4,hji4⟩: ∃ j_:Int,(wrap64 ((IntKind.u64.wrap (wrap64 (x7_1+x8_1))) / 2))=j_:=⟨_,rfl⟩
    replace H:(if 0≤(ji4)then(if(ji4) < (l0.length:Int)then((cU.f (rd l0 (ji4)) a1).bind fun t102=> (if t102=true then(aK.l0 k1 l0 a1 (l0.length:Int) (wrap64 ((ji4)+1)) x8_1)else(aK.l0 k1 l0 a1 (l0.length:Int) x7_1 ji4)))else(none))else(none))=some (r1,r2):=by first|(rw[hji4] at H;exact H)|(simp only[hji4] at H⊢;exact H)
    have hji4w:(IntKind.i64.wrap ((IntKind.u64.wrap (wrap64 (x7_1+x8_1))) / 2))=ji4:=(i64_w _).trans hji4;by_cases c5:0≤(ji4)
    ·rw[if_pos c5] at H
     have c5b0:=zFq c5;clear c5;by_cases c6:(ji4) < (l0.length:Int)
     ·rw[if_pos c6] at H
      have c6b0:=zFq c6;clear c6;obtain⟨t102,A7,H⟩:=qD_ H;(try dsimp only at H);by_cases c8:t102=true
      ·subst c8
       have H1:(aK.l0 k1 l0 a1 (l0.length:Int) (wrap64 ((ji4)+1)) x8_1)=some (r1,r2):=by first|(rw[if_pos rfl] at H;exact H)|rfl
       clear H;have H:=H1;clear H1;have H':=zA H;clear H;have p101:0≤((ji4):Int):=qO_;have q101:(ji4) < (l0.length:Int):=qO_;obtain⟨ad101,e101,hx101_0⟩:=Kd.at_int HR0.out (ji4) p101 q101;cases e101
       replace p101:=eq_true p101;replace q101:=eq_true q101;go_wp2_with (first|((with_reducible refine zJq (f:=158) rfl ?_);refine goesL_ (some 27) rfl rfl Try.func158 (by kernel_rfl) rfl #[.int .i64 (rd l0 (ji4)),.int .i64 a1] rfl (by(try simp only[zR,zS,zT]);first|done|(simp only[hji4];rfl)|rfl|(simp only[zP,zQ];rfl)) ?_;(with_reducible refine(cU.calls (rd l0 (ji4)) a1 true _ A7.out).mono ?_);rintro e w' ⟨rfl,⟨nd,rfl⟩⟩;refine⟨_,rfl,?_⟩));go_roundg k1
       case measure=>have:=HK1.out;omega
       case rel=>exact⟨(wrap64 ((ji4)+1)),(x8_1),(by first|rfl|(simp;done)|(simp only[←hji4] <;> (first|rfl|simp))|(simp[*];done)),qF_,H',⟨by have:=HK1.out;omega⟩,by repeat(first|exact Drawn0.refl _|apply Drawn0.step)⟩
      replace c8:=Bool.eq_false_iff.mpr c8;subst c8;have H1:(aK.l0 k1 l0 a1 (l0.length:Int) x7_1 ji4)=some (r1,r2):=by first|(rw[if_neg (show ¬ (false=true) by decide)] at H;exact H)|rfl
      clear H;have H:=H1;clear H1;have H':=zA H;clear H;have p101:0≤((ji4):Int):=qO_;have q101:(ji4) < (l0.length:Int):=qO_;obtain⟨ad101,e101,hx101_0⟩:=Kd.at_int HR0.out (ji4) p101 q101;cases e101
      replace p101:=eq_true p101;replace q101:=eq_true q101;go_wp2_with (first|((with_reducible refine zJq (f:=158) rfl ?_);refine goesL_ (some 27) rfl rfl Try.func158 (by kernel_rfl) rfl #[.int .i64 (rd l0 (ji4)),.int .i64 a1] rfl (by(try simp only[zR,zS,zT]);first|done|(simp only[hji4];rfl)|rfl|(simp only[zP,zQ];rfl)) ?_;(with_reducible refine(cU.calls (rd l0 (ji4)) a1 false _ A7.out).mono ?_);rintro e w' ⟨rfl,⟨nd,rfl⟩⟩;refine⟨_,rfl,?_⟩));go_roundg k1
      case measure=>have:=HK1.out;omega
      case rel=>exact⟨(x7_1),(ji4),qF_,(by first|rfl|(simp;done)|(simp only[←hji4] <;> (first|rfl|simp))|(simp[*];done)),H',⟨by have:=HK1.out;omega⟩,by repeat(first|exact Drawn0.refl _|apply Drawn0.step)⟩
     rw[if_neg c6] at H;exact absurd H (by simp)
    rw[if_neg c5] at H;exact absurd H (by simp)
   rw[if_neg c3] at H;have c3b0:=zGq c3;clear c3;by_cases c9:x7_1 < (l0.length:Int)
   ·rw[if_pos c9] at H
    have c9b0:=zFq c9;clear c9;by_cases c10:0≤x7_1
    ·rw[if_pos c10] at H
     have c10b0:=zFq c10;clear c10;by_cases c11:x7_1 < (l0.length:Int)
     ·rw[if_pos c11] at H
      have c11b0:=zFq c11;clear c11;by_cases c12:(rd l0 x7_1)=a1
      ·rw[if_pos c12] at H
       have c12b0:((rd l0 x7_1)==a1)=true:=beq_iff_eq.mpr c12;have c12b1:((rd l0 x7_1) != a1)=false:=bne_eq_false_iff_eq.mpr c12;clear c12;simp only[zNq,zOq] at H;obtain⟨rfl,rfl⟩:=H;have p103:0≤(x7_1:Int):=qO_;have q103:x7_1 < (l0.length:Int):=qO_;obtain⟨ad103,e103,hx103_0⟩:=Kd.at_int HR0.out x7_1 p103 q103;cases e103
       replace p103:=eq_true p103;replace q103:=eq_true q103;go_wp2;go_ret2;exact⟨by first|rfl|(simp;done)|(simp[*];done),by repeat(first|exact Drawn0.refl _|apply Drawn0.step)⟩
      rw[if_neg c12] at H;have c12b0:((rd l0 x7_1)==a1)=false:=beq_eq_false_iff_ne.mpr c12;have c12b1:((rd l0 x7_1) != a1)=true:=bne_iff_ne.mpr c12;obtain⟨t105,A13,H⟩:=qD_ H;(try dsimp only at H);by_cases c14:t105=true
      ·subst c14
       have H1:((cL.f a1).bind fun t106=> (some (x7_1,t106)))=some (r1,r2):=by first|(rw[if_pos rfl] at H;exact H)|rfl
       clear H;have H:=H1;clear H1;obtain⟨t106,A15,H⟩:=qD_ H;(try dsimp only at H);simp only[zNq,zOq] at H;obtain⟨rfl,rfl⟩:=H;have p103:0≤(x7_1:Int):=qO_;have q103:x7_1 < (l0.length:Int):=qO_;obtain⟨ad103,e103,hx103_0⟩:=Kd.at_int HR0.out x7_1 p103 q103;cases e103
       replace p103:=eq_true p103;replace q103:=eq_true q103;have p104:0≤(x7_1:Int):=qO_;have q104:x7_1 < (l0.length:Int):=qO_;obtain⟨ad104,e104,hx104_0⟩:=Kd.at_int HR0.out x7_1 p104 q104;obtain rfl:ad103=ad104:=(by injection e104)
       replace p104:=eq_true p104;replace q104:=eq_true q104;go_wp2_with (first|(go_at_call 159;(with_reducible refine(cL.calls (rd l0 x7_1) true _ A13.out).mono ?_);rintro e w' ⟨rfl,⟨nd,rfl⟩⟩)|(go_at_call 159;(with_reducible refine(cL.calls a1 t106 _ A15.out).mono ?_);rintro e w' ⟨rfl,⟨nd,rfl⟩⟩));go_ret2;exact⟨by first|rfl|(simp;done)|(simp[*];done),by repeat(first|exact Drawn0.refl _|apply Drawn0.step)⟩
      replace c14:=Bool.eq_false_iff.mpr c14;subst c14;have H1:(some (x7_1,false))=some (r1,r2):=by first|(rw[if_neg (show ¬ (false=true) by decide)] at H;exact H)|rfl
      clear H;have H:=H1;clear H1;simp only[zNq,zOq] at H;obtain⟨rfl,rfl⟩:=H;have p103:0≤(x7_1:Int):=qO_;have q103:x7_1 < (l0.length:Int):=qO_;obtain⟨ad103,e103,hx103_0⟩:=Kd.at_int HR0.out x7_1 p103 q103;cases e103
      replace p103:=eq_true p103;replace q103:=eq_true q103;have p104:0≤(x7_1:Int):=qO_;have q104:x7_1 < (l0.length:Int):=qO_;obtain⟨ad104,e104,hx104_0⟩:=Kd.at_int HR0.out x7_1 p104 q104;obtain rfl:ad103=ad104:=(by injection e104)
      replace p104:=eq_true p104;replace q104:=eq_true q104;go_wp2_with (first|(go_at_call 159;(with_reducible refine(cL.calls (rd l0 x7_1) false _ A13.out).mono ?_);rintro e w' ⟨rfl,⟨nd,rfl⟩⟩));go_ret2;exact⟨by first|rfl|(simp;done)|(simp[*];done),by repeat(first|exact Drawn0.refl _|apply Drawn0.step)⟩
     rw[if_neg c11] at H;exact absurd H (by simp)
    rw[if_neg c10] at H;exact absurd H (by simp)
   rw[if_neg c9] at H;have c9b0:=zGq c9;clear c9;simp only[zNq,zOq] at H;obtain⟨rfl,rfl⟩:=H;go_wp2;go_ret2;exact⟨by first|rfl|(simp;done)|(simp[*];done),by repeat(first|exact Drawn0.refl _|apply Drawn0.step)⟩
def bC.l0:Nat→List Int→Int→Int→Int→Option (Int)
  |0,_,_,_,_=>none
  |k+1,x0,x1,x7,x8=>if x8 < x7 then(if 0≤x8 then(if x8 < (x0.length:Int)then(if x1=(rd x0 x8)then(some x8)else(bC.l0 k x0 x1 x7 (wrap64 (x8+1))))else(none))else(none))else(some (-1))
def bC.f (k:Nat) (l0:List Int) (a1:Int):Option (Int):=bC.l0 k l0 a1 (l0.length:Int) 0
theorem bC.mono_l: ∀ k,(∀ y0 y1 y2 y3,LeO (bC.l0 k y0 y1 y2 y3) (bC.l0 (k+1) y0 y1 y2 y3))
  |0=>fun _ _ _ _ r h=>by simp[bC.l0] at h
  |k+1=>by
    have ih0:=bC.mono_l k
    intro y0 y1 y2 y3
    unfold bC.l0
    repeat' (with_reducible first|exact ih0 _ _ _ _|exact LeO.refl _|exact LeO.none _|refine LeO.ite ?_ ?_|refine LeO.bind ?_ (fun _=>?_))
theorem bC.mono: ∀ a0 a1 k,LeO (bC.f k a0 a1) (bC.f (k+1) a0 a1):=by
  intro a0 a1 k
  have ih0:=bC.mono_l k
  unfold bC.f
  repeat' (with_reducible first|exact ih0 _ _ _ _|exact LeO.refl _|exact LeO.none _|refine LeO.ite ?_ ?_|refine LeO.bind ?_ (fun _=>?_))
theorem bC.calls (k:Nat) (A0:Option Addr) (c0:Nat) (l0:List Int) (a1:Int) (r:Int) (w:World) (hr0:Kd.C (Kd.int .i64) w A0 l0.length l0) (hc0:l0.length≤c0) (h:bC.f k l0 a1=some r):
  Calls Try.prog 134 #[.slice A0 l0.length c0,.int .i64 a1] w fun e w'=>e= .returned (.int .i64 r)∧Drawn0 w w':=by
 have HR0:=zA hr0
 have HC0:=zA hc0
 clear hr0 hc0
 have H:(bC.l0 k l0 a1 (l0.length:Int) 0)=some r:=h
 clear h
 have H':=zA H
 clear H
 go_enter Try.func134,Try.ntmps134
 go_wp2
 go_loopg[8] k (fun kq v8 w'=> ∃ (x8_1:Int),v8= .int .i64 x8_1∧Aside0 (bC.l0 kq l0 a1 (l0.length:Int) x8_1=some r)∧Aside0 (kq≤k)∧Drawn0 w w')
 case atStart=>exact⟨(0),qF_,H',⟨Nat.le_refl _⟩,by repeat(first|exact Drawn0.refl _|apply Drawn0.step)⟩
 case round=>
  clear H';try clear c1
  try clear p2
  obtain⟨x8_1,rfl,HA,HK1,⟨m1,rfl⟩⟩:=hrel;cases gk with
  |zero=>exact absurd HA.out (by simp[bC.l0])
  |succ k1=>
   have H:=HA.out;clear HA;simp only[bC.l0] at H;by_cases c3:x8_1 < (l0.length:Int)
   ·rw[if_pos c3] at H
    have c3b0:=zFq c3;clear c3;by_cases c4:0≤x8_1
    ·rw[if_pos c4] at H
     have c4b0:=zFq c4;clear c4;by_cases c5:x8_1 < (l0.length:Int)
     ·rw[if_pos c5] at H
      have c5b0:=zFq c5;clear c5;by_cases c6:a1=(rd l0 x8_1)
      ·rw[if_pos c6] at H
       have c6b0:(a1==(rd l0 x8_1))=true:=beq_iff_eq.mpr c6;have c6b1:(a1 !=(rd l0 x8_1))=false:=bne_eq_false_iff_eq.mpr c6;clear c6;obtain rfl:=zKq H;have p101:0≤(x8_1:Int):=qO_;have q101:x8_1 < (l0.length:Int):=qO_;obtain⟨ad101,e101,hx101_0⟩:=Kd.at_int HR0.out x8_1 p101 q101;cases e101
       replace p101:=eq_true p101;replace q101:=eq_true q101;go_wp2;go_ret;exact⟨by first|rfl|(simp;done)|(simp[*];done),by repeat(first|exact Drawn0.refl _|apply Drawn0.step)⟩
      rw[if_neg c6] at H;have c6b0:(a1==(rd l0 x8_1))=false:=beq_eq_false_iff_ne.mpr c6;have c6b1:(a1 !=(rd l0 x8_1))=true:=bne_iff_ne.mpr c6;have H':=zA H;clear H;have p101:0≤(x8_1:Int):=qO_;have q101:x8_1 < (l0.length:Int):=qO_;obtain⟨ad101,e101,hx101_0⟩:=Kd.at_int HR0.out x8_1 p101 q101;cases e101
      replace p101:=eq_true p101;replace q101:=eq_true q101;go_wp2;go_roundg k1
      case measure=>have:=HK1.out;omega
      case rel=>exact⟨(wrap64 (x8_1+1)),qF_,H',⟨by have:=HK1.out;omega⟩,by repeat(first|exact Drawn0.refl _|apply Drawn0.step)⟩
     rw[if_neg c5] at H;exact absurd H (by simp)
    rw[if_neg c4] at H;exact absurd H (by simp)
   rw[if_neg c3] at H;have c3b0:=zGq c3;clear c3;obtain rfl:=zKq H;go_wp2;go_ret;exact⟨by first|rfl|(simp;done)|(simp[*];done),by repeat(first|exact Drawn0.refl _|apply Drawn0.step)⟩
def cO.f (k:Nat) (l0:List Int) (a1:Int):Option (Int × Bool):=(bH.f k l0).bind fun t101=> (if t101=0 then((aK.f k l0 a1).bind fun bt102=> (some (bt102.1,bt102.2)))else((bC.f k l0 a1).bind fun t104=> (if t104≥0 then(some (t104,true))else(some ((l0.length:Int),false)))))
theorem cO.mono: ∀ a0 a1 k,LeO (cO.f k a0 a1) (cO.f (k+1) a0 a1):=by
  intro a0 a1 k
  unfold cO.f
  repeat' (with_reducible first|exact bH.mono _ _|exact aK.mono _ _ _|exact bC.mono _ _ _|exact LeO.refl _|exact LeO.none _|refine LeO.ite ?_ ?_|refine LeO.bind ?_ (fun _=>?_))
theorem cO.calls (k:Nat) (A0:Option Addr) (c0:Nat) (l0:List Int) (a1:Int) (r1:Int) (r2:Bool) (w:World) (hr0:Kd.C (Kd.int .i64) w A0 l0.length l0) (hc0:l0.length≤c0) (h:cO.f k l0 a1=some (r1,r2)):
  Calls Try.prog 87 #[.slice A0 l0.length c0,.int .i64 a1] w fun e w'=>e= .returned (.tuple #[.int .i64 r1,.bool r2])∧Drawn0 w w':=by
 have HR0:=zA hr0
 have HC0:=zA hc0
 clear hr0 hc0
 have H:((bH.f k l0).bind fun t101=> (if t101=0 then((aK.f k l0 a1).bind fun bt102=> (some (bt102.1,bt102.2)))else((bC.f k l0 a1).bind fun t104=> (if t104≥0 then(some (t104,true))else(some ((l0.length:Int),false))))))=some (r1,r2):=h
 clear h
 obtain⟨t101,A3,H⟩:=qD_ H
 (try dsimp only at H)
 by_cases c4:t101=0
 ·rw[if_pos c4] at H
  have c4b0:(t101==0)=true:=beq_iff_eq.mpr c4;have c4b1:(t101 != 0)=false:=bne_eq_false_iff_eq.mpr c4;clear c4;obtain⟨⟨t102,t103⟩,A5,H⟩:=qD_ H;(try dsimp only at H);simp only[zNq,zOq] at H;obtain⟨rfl,rfl⟩:=H;go_enter Try.func87,Try.ntmps87;go_wp2_with (first|((with_reducible refine zJq (f:=83) rfl ?_);refine goesL_ (some 8) rfl rfl Try.func83 (by kernel_rfl) rfl #[.slice A0 l0.length c0] rfl qG ?_;(with_reducible refine(bH.calls k _ _ l0 t101 _ ?side1 ?side2 A3.out).mono ?_);(case side1=>repeat(first|exact HR0.out|(with_reducible refine Kd.C_alloc ?_ _)|(with_reducible refine Kd.C_drewN ?_ _)|(with_reducible refine Kd.C_drew ?_)));(case side2=>exact HC0.out);rintro e w' ⟨rfl,⟨nd,rfl⟩⟩;refine⟨_,rfl,?_⟩)|((with_reducible refine zJq (f:=133) rfl ?_);refine goesL_ (some 12) rfl rfl Try.func133 (by kernel_rfl) rfl #[.slice A0 l0.length c0,.int .i64 a1] rfl qG ?_;(with_reducible refine(aK.calls k _ _ l0 a1 t102 t103 _ ?side1 ?side2 A5.out).mono ?_);(case side1=>repeat(first|exact HR0.out|(with_reducible refine Kd.C_alloc ?_ _)|(with_reducible refine Kd.C_drewN ?_ _)|(with_reducible refine Kd.C_drew ?_)));(case side2=>exact HC0.out);rintro e w' ⟨rfl,⟨nd,rfl⟩⟩;refine⟨_,rfl,?_⟩));go_ret2;exact⟨by first|rfl|(simp;done)|(simp[*];done),by repeat(first|exact Drawn0.refl _|apply Drawn0.step)⟩
 rw[if_neg c4] at H
 have c4b0:(t101==0)=false:=beq_eq_false_iff_ne.mpr c4
 have c4b1:(t101 != 0)=true:=bne_iff_ne.mpr c4
 obtain⟨t104,A6,H⟩:=qD_ H
 (try dsimp only at H)
 by_cases c7:t104≥0
 ·rw[if_pos c7] at H
  have c7b0:decide (0≤t104)=true:=zFq c7;clear c7;simp only[zNq,zOq] at H;obtain⟨rfl,rfl⟩:=H;go_enter Try.func87,Try.ntmps87;go_wp2_with (first|((with_reducible refine zJq (f:=83) rfl ?_);refine goesL_ (some 8) rfl rfl Try.func83 (by kernel_rfl) rfl #[.slice A0 l0.length c0] rfl qG ?_;(with_reducible refine(bH.calls k _ _ l0 t101 _ ?side1 ?side2 A3.out).mono ?_);(case side1=>repeat(first|exact HR0.out|(with_reducible refine Kd.C_alloc ?_ _)|(with_reducible refine Kd.C_drewN ?_ _)|(with_reducible refine Kd.C_drew ?_)));(case side2=>exact HC0.out);rintro e w' ⟨rfl,⟨nd,rfl⟩⟩;refine⟨_,rfl,?_⟩)|((with_reducible refine zJq (f:=134) rfl ?_);refine goesL_ (some 17) rfl rfl Try.func134 (by kernel_rfl) rfl #[.slice A0 l0.length c0,.int .i64 a1] rfl qG ?_;(with_reducible refine(bC.calls k _ _ l0 a1 t104 _ ?side1 ?side2 A6.out).mono ?_);(case side1=>repeat(first|exact HR0.out|(with_reducible refine Kd.C_alloc ?_ _)|(with_reducible refine Kd.C_drewN ?_ _)|(with_reducible refine Kd.C_drew ?_)));(case side2=>exact HC0.out);rintro e w' ⟨rfl,⟨nd,rfl⟩⟩;refine⟨_,rfl,?_⟩));go_ret2;exact⟨by first|rfl|(simp;done)|(simp[*];done),by repeat(first|exact Drawn0.refl _|apply Drawn0.step)⟩
 rw[if_neg c7] at H
 have c7b0:decide (0≤t104)=false:=zGq c7
 clear c7
 simp only[zNq,zOq] at H
 obtain⟨rfl,rfl⟩:=H
 go_enter Try.func87,Try.ntmps87
 go_wp2_with (first|((with_reducible refine zJq (f:=83) rfl ?_);refine goesL_ (some 8) rfl rfl Try.func83 (by kernel_rfl) rfl #[.slice A0 l0.length c0] rfl qG ?_;(with_reducible refine(bH.calls k _ _ l0 t101 _ ?side1 ?side2 A3.out).mono ?_);(case side1=>repeat(first|exact HR0.out|(with_reducible refine Kd.C_alloc ?_ _)|(with_reducible refine Kd.C_drewN ?_ _)|(with_reducible refine Kd.C_drew ?_)));(case side2=>exact HC0.out);rintro e w' ⟨rfl,⟨nd,rfl⟩⟩;refine⟨_,rfl,?_⟩)|((with_reducible refine zJq (f:=134) rfl ?_);refine goesL_ (some 17) rfl rfl Try.func134 (by kernel_rfl) rfl #[.slice A0 l0.length c0,.int .i64 a1] rfl qG ?_;(with_reducible refine(bC.calls k _ _ l0 a1 t104 _ ?side1 ?side2 A6.out).mono ?_);(case side1=>repeat(first|exact HR0.out|(with_reducible refine Kd.C_alloc ?_ _)|(with_reducible refine Kd.C_drewN ?_ _)|(with_reducible refine Kd.C_drew ?_)));(case side2=>exact HC0.out);rintro e w' ⟨rfl,⟨nd,rfl⟩⟩;refine⟨_,rfl,?_⟩))
 go_ret2
 exact⟨by first|rfl|(simp;done)|(simp[*];done),by repeat(first|exact Drawn0.refl _|apply Drawn0.step)⟩
def bL.f (k:Nat) (l0:List (S164)) (a1:Int):Option (Int × Bool):=(bT.f k l0).bind fun t101=> ((cO.f k t101 a1).bind fun bt104=> (some (bt104.1,bt104.2)))
theorem bL.mono: ∀ a0 a1 k,LeO (bL.f k a0 a1) (bL.f (k+1) a0 a1):=by
  intro a0 a1 k
  unfold bL.f
  repeat' (with_reducible first|exact bT.mono _ _|exact cO.mono _ _ _|exact LeO.refl _|exact LeO.none _|refine LeO.ite ?_ ?_|refine LeO.bind ?_ (fun _=>?_))
theorem bL.calls (k:Nat) (A0:Option Addr) (c0:Nat) (l0:List (S164)) (a1:Int) (r1:Int) (r2:Bool) (w:World) (hr0:Kd.C k164 w A0 l0.length l0) (hc0:l0.length≤c0) (h:bL.f k l0 a1=some (r1,r2)):
  Calls Try.prog 102 #[.slice A0 l0.length c0,.int .i64 a1] w fun e w'=>e= .returned (.tuple #[.int .i64 r1,.bool r2])∧Below w.heap.size w w':=by
 have HR0:=zA hr0
 have HC0:=zA hc0
 clear hr0 hc0
 have HB:=zA (Below.refl w.heap.size w)
 have H:((bT.f k l0).bind fun t101=> ((cO.f k t101 a1).bind fun bt104=> (some (bt104.1,bt104.2))))=some (r1,r2):=h
 clear h
 obtain⟨t101,A3,H⟩:=qD_ H
 (try dsimp only at H)
 obtain⟨⟨t104,t105⟩,A4,H⟩:=qD_ H
 (try dsimp only at H)
 simp only[zNq,zOq] at H
 obtain⟨rfl,rfl⟩:=H
 go_enter Try.func102,Try.ntmps102
 go_wp2_with (first|((with_reducible refine zJq (f:=105) rfl ?_);refine goesL_ (some 7) rfl rfl Try.func105 (by kernel_rfl) rfl #[.slice A0 l0.length c0] rfl qG ?_;(with_reducible refine(bT.calls k _ _ l0 t101 _ ?side1 ?side2 A3.out).mono ?_);(case side1=>repeat(first|exact HR0.out|(with_reducible refine Kd.C_alloc ?_ _)|(with_reducible refine Kd.C_drewN ?_ _)|(with_reducible refine Kd.C_drew ?_)));(case side2=>exact HC0.out);rintro e w5 ⟨v102,rfl,ho0,hb⟩;refine⟨_,rfl,?_⟩;have HO103:=zA (Kd.R_lower ho0 (zW qB));replace HB:=zA (zV qB hb);(try clear hb);(try clear ho0);obtain⟨Ao6,co6,eo6⟩:=Kd.R_slice HO103.out;subst eo6)|((with_reducible refine zJq (f:=87) rfl ?_);refine goesL_ (some 9) rfl rfl Try.func87 (by kernel_rfl) rfl #[.slice Ao6 t101.length co6,.int .i64 a1] rfl qG ?_;(with_reducible refine(cO.calls k _ _ t101 a1 t104 t105 _ ?side1 ?side2 A4.out).mono ?_);(case side1=>repeat(first|exact(Kd.R_reads' HO103.out).2.2|(with_reducible refine Kd.C_alloc ?_ _)|(with_reducible refine Kd.C_drewN ?_ _)|(with_reducible refine Kd.C_drew ?_)));(case side2=>exact(Kd.R_reads' HO103.out).2.1);rintro e w' ⟨rfl,⟨nd,rfl⟩⟩;refine⟨_,rfl,?_⟩))
 go_ret2
 exact⟨qE,qB⟩
mutual
def aC.j3:Nat→List (List (S164))→Int→Int→Int→ByteArray→Option (Int)
  |0,_,_,_,_,_=>none
  |k+1,x102000,x103000,x103001,x103002,x103003=>if 0≤x103000 then(if x103000 < (x102000.length:Int)then((bL.f k (rd_L22 x102000 x103000) x103002).bind fun bt104=> (if x103001=1 then(aC.j4 k (rd_L22 x102000 x103000) bt104.2 bt104.2 x103000 x103001 x103002 x103003)else(aC.j4 k (rd_L22 x102000 x103000) bt104.2 false x103000 x103001 x103002 x103003)))else(none))else(none)
def aC.j4:Nat→List (S164)→Bool→Bool→Int→Int→Int→ByteArray→Option (Int)
  |0,_,_,_,_,_,_,_=>none
  |k+1,x5,x7,x61,x103000,x103001,x103002,x103003=>if x61=true then(some 32)else(if x103001=1 then(aC.j5 k x7 (decide ((x5.length:Int)≥60)) x103000 x103001 x103002 x103003)else(aC.j5 k x7 false x103000 x103001 x103002 x103003))
def aC.j5:Nat→Bool→Bool→Int→Int→Int→ByteArray→Option (Int)
  |0,_,_,_,_,_,_=>none
  |k+1,x7,x68,x103000,x103001,x103002,x103003=>if x68=true then(some 37)else(if x103001=1 then(some 0)else(if x7=true then(some 0)else(some 31)))
def aC.j0:Nat→Bool→List (List (S164))→Int→Int→Int→ByteArray→Option (Int)
  |0,_,_,_,_,_,_=>none
  |k+1,x8,x102000,x103000,x103001,x103002,x103003=>if x8=true then(some 30)else(if x103000 < 0 then(aC.j1 k true x102000 x103000 x103001 x103002 x103003)else(aC.j1 k (decide (x103000≥(x102000.length:Int))) x102000 x103000 x103001 x103002 x103003))
def aC.j1:Nat→Bool→List (List (S164))→Int→Int→Int→ByteArray→Option (Int)
  |0,_,_,_,_,_,_=>none
  |k+1,x17,x102000,x103000,x103001,x103002,x103003=>if x17=true then(some 2)else(if x103002 < 1 then(aC.j2 k true x102000 x103000 x103001 x103002 x103003)else(aC.j2 k (decide (x103002 > 999999)) x102000 x103000 x103001 x103002 x103003))
def aC.j2:Nat→Bool→List (List (S164))→Int→Int→Int→ByteArray→Option (Int)
  |0,_,_,_,_,_,_=>none
  |k+1,x29,x102000,x103000,x103001,x103002,x103003=>if x29=true then(some 31)else(if x103001=3 then(aC.j3 k x102000 x103000 x103001 x103002 x103003)else(if(x103003.size:Int) > 200 then(some 3)else(aC.j3 k x102000 x103000 x103001 x103002 x103003)))
end
def aC.f (k:Nat) (l0_0:List (List (S164))) (a1_0:Int) (a1_1:Int) (a1_2:Int) (a1_3:ByteArray):Option (Int):=if a1_1 < 1 then(aC.j0 k true l0_0 a1_0 a1_1 a1_2 a1_3)else(aC.j0 k (decide (a1_1 > 3)) l0_0 a1_0 a1_1 a1_2 a1_3)
theorem aC.mono_l: ∀ k,(∀ y0 y1 y2 y3 y4,LeO (aC.j3 k y0 y1 y2 y3 y4) (aC.j3 (k+1) y0 y1 y2 y3 y4))∧(∀ y0 y1 y2 y3 y4 y5 y6,LeO (aC.j4 k y0 y1 y2 y3 y4 y5 y6) (aC.j4 (k+1) y0 y1 y2 y3 y4 y5 y6))∧(∀ y0 y1 y2 y3 y4 y5,LeO (aC.j5 k y0 y1 y2 y3 y4 y5) (aC.j5 (k+1) y0 y1 y2 y3 y4 y5))∧(∀ y0 y1 y2 y3 y4 y5,LeO (aC.j0 k y0 y1 y2 y3 y4 y5) (aC.j0 (k+1) y0 y1 y2 y3 y4 y5))∧(∀ y0 y1 y2 y3 y4 y5,LeO (aC.j1 k y0 y1 y2 y3 y4 y5) (aC.j1 (k+1) y0 y1 y2 y3 y4 y5))∧(∀ y0 y1 y2 y3 y4 y5,LeO (aC.j2 k y0 y1 y2 y3 y4 y5) (aC.j2 (k+1) y0 y1 y2 y3 y4 y5))
  |0=> ⟨fun _ _ _ _ _ r h=>by simp[aC.j3] at h,fun _ _ _ _ _ _ _ r h=>by simp[aC.j4] at h,fun _ _ _ _ _ _ r h=>by simp[aC.j5] at h,fun _ _ _ _ _ _ r h=>by simp[aC.j0] at h,fun _ _ _ _ _ _ r h=>by simp[aC.j1] at h,fun _ _ _ _ _ _ r h=>by simp[aC.j2] at h⟩
  |k+1=>by
    obtain⟨ih0,ih1,ih2,ih3,ih4,ih5⟩:=aC.mono_l k
    refine⟨?_,?_,?_,?_,?_,?_⟩
    · intro y0 y1 y2 y3 y4
      unfold aC.j3
      repeat' (with_reducible first|exact ih0 _ _ _ _ _|exact ih1 _ _ _ _ _ _ _|exact ih2 _ _ _ _ _ _|exact ih3 _ _ _ _ _ _|exact ih4 _ _ _ _ _ _|exact ih5 _ _ _ _ _ _|exact bL.mono _ _ _|exact LeO.refl _|exact LeO.none _|refine LeO.ite ?_ ?_|refine LeO.bind ?_ (fun _=>?_))
    · intro y0 y1 y2 y3 y4 y5 y6
      unfold aC.j4
      repeat' (with_reducible first|exact ih0 _ _ _ _ _|exact ih1 _ _ _ _ _ _ _|exact ih2 _ _ _ _ _ _|exact ih3 _ _ _ _ _ _|exact ih4 _ _ _ _ _ _|exact ih5 _ _ _ _ _ _|exact bL.mono _ _ _|exact LeO.refl _|exact LeO.none _|refine LeO.ite ?_ ?_|refine LeO.bind ?_ (fun _=>?_))
    · intro y0 y1 y2 y3 y4 y5
      unfold aC.j5
      repeat' (with_reducible first|exact ih0 _ _ _ _ _|exact ih1 _ _ _ _ _ _ _|exact ih2 _ _ _ _ _ _|exact ih3 _ _ _ _ _ _|exact ih4 _ _ _ _ _ _|exact ih5 _ _ _ _ _ _|exact bL.mono _ _ _|exact LeO.refl _|exact LeO.none _|refine LeO.ite ?_ ?_|refine LeO.bind ?_ (fun _=>?_))
    · intro y0 y1 y2 y3 y4 y5
      unfold aC.j0
      repeat' (with_reducible first|exact ih0 _ _ _ _ _|exact ih1 _ _ _ _ _ _ _|exact ih2 _ _ _ _ _ _|exact ih3 _ _ _ _ _ _|exact ih4 _ _ _ _ _ _|exact ih5 _ _ _ _ _ _|exact bL.mono _ _ _|exact LeO.refl _|exact LeO.none _|refine LeO.ite ?_ ?_|refine LeO.bind ?_ (fun _=>?_))
    · intro y0 y1 y2 y3 y4 y5
      unfold aC.j1
      repeat' (with_reducible first|exact ih0 _ _ _ _ _|exact ih1 _ _ _ _ _ _ _|exact ih2 _ _ _ _ _ _|exact ih3 _ _ _ _ _ _|exact ih4 _ _ _ _ _ _|exact ih5 _ _ _ _ _ _|exact bL.mono _ _ _|exact LeO.refl _|exact LeO.none _|refine LeO.ite ?_ ?_|refine LeO.bind ?_ (fun _=>?_))
    intro y0 y1 y2 y3 y4 y5
    unfold aC.j2
    repeat' (with_reducible first|exact ih0 _ _ _ _ _|exact ih1 _ _ _ _ _ _ _|exact ih2 _ _ _ _ _ _|exact ih3 _ _ _ _ _ _|exact ih4 _ _ _ _ _ _|exact ih5 _ _ _ _ _ _|exact bL.mono _ _ _|exact LeO.refl _|exact LeO.none _|refine LeO.ite ?_ ?_|refine LeO.bind ?_ (fun _=>?_))
theorem aC.mono: ∀ a0 a1 a2 a3 a4 k,LeO (aC.f k a0 a1 a2 a3 a4) (aC.f (k+1) a0 a1 a2 a3 a4):=by
  intro a0 a1 a2 a3 a4 k
  obtain⟨ih0,ih1,ih2,ih3,ih4,ih5⟩:=aC.mono_l k
  unfold aC.f
  repeat' (with_reducible first|exact ih0 _ _ _ _ _|exact ih1 _ _ _ _ _ _ _|exact ih2 _ _ _ _ _ _|exact ih3 _ _ _ _ _ _|exact ih4 _ _ _ _ _ _|exact ih5 _ _ _ _ _ _|exact bL.mono _ _ _|exact LeO.refl _|exact LeO.none _|refine LeO.ite ?_ ?_|refine LeO.bind ?_ (fun _=>?_))
theorem aC.calls (k:Nat) (A0_0:Option Addr) (c0_0:Nat) (l0_0:List (List (S164))) (a1_0:Int) (a1_1:Int) (a1_2:Int) (a1_3:ByteArray) (r:Int) (w:World) (hr0_0:Kd.C (Kd.slice 164 k164) w A0_0 l0_0.length l0_0) (hc0_0:l0_0.length≤c0_0) (h:aC.f k l0_0 a1_0 a1_1 a1_2 a1_3=some r):
  Calls Try.prog 143 #[.agg #[.slice A0_0 l0_0.length c0_0],.agg #[.int .i64 a1_0,.int .i64 a1_1,.int .i64 a1_2,.string a1_3]] w fun e w'=>e= .returned (.int .i64 r)∧Below w.heap.size w w':=by
 have hu75:=Try.underlying75
 have hu166:=Try.underlying166
 have HR0_0:=zA hr0_0
 have HC0_0:=zA hc0_0
 clear hr0_0 hc0_0
 have HB:=zA (Below.refl w.heap.size w)
 have H:(if a1_1 < 1 then(aC.j0 k true l0_0 a1_0 a1_1 a1_2 a1_3)else(aC.j0 k (decide (a1_1 > 3)) l0_0 a1_0 a1_1 a1_2 a1_3))=some r:=h
 clear h
 have HC3:=zA H
 clear H
 go_enter Try.func143,Try.ntmps143
 go_upto_block 0 with(first|((with_reducible refine gate_dst (N:=2) rfl ?_);(try(refine gate_guard (by rfl) ?_;dsimp only));refine box_event qr (N:=2) qr (cs:= #[.slice A0_0 l0_0.length c0_0]) (t:=75) qg ?_;intro gb101 hg w4 hbox hb;have BK101:=zA (hbox);have GW101:=zA ((qS:w.heap.size≤gb101));have GE101:=zA ((qS:w.heap.size≤gb101));replace HB:=zA (zV qB hb);clear hb hbox hg)|((with_reducible refine gate_dst (N:=3) rfl ?_);(try(refine gate_guard (by rfl) ?_;dsimp only));refine box_event qr (N:=3) qr (cs:= #[.int .i64 a1_0,.int .i64 a1_1,.int .i64 a1_2,.string a1_3]) (t:=166) qg ?_;intro gb102 hg w5 hbox hb;have BK102:=zA (hbox);have GW102:=zA ((qS:w.heap.size≤gb102));have GE102:=zA ((qS:w.heap.size≤gb102));replace HB:=zA (zV qB hb);have NB101_102:=zA ((by rw[hg];exact zLq (qL BK101.out):gb101≠gb102));have NB102_101:=zA ((by rw[hg];exact zMq (qL BK101.out):gb102≠gb101));replace BK101:=zA (qX BK101.out hb);clear hb hbox hg))
 (try simp only[Act.put,zH,zI,zJ])
 go_cut[] (fun wc=> ∃ (kq:Nat),Aside0 (aC.j3 kq l0_0 a1_0 a1_1 a1_2 a1_3=some r)∧Aside0 (kq≤k)∧Aside0 (wc.heap[gb101]? =some (.cells #[(.slice A0_0 l0_0.length c0_0)] 75 (0,0)))∧Aside0 (wc.heap[gb102]? =some (.cells #[.int .i64 a1_0,.int .i64 a1_1,.int .i64 a1_2,.string a1_3] 166 (0,0)))∧Aside0 (Below w.heap.size w wc))
 case first=>
  have H:=HC3.out;clear HC3;have HC6:=zA H;clear H;go_upto_region 1 with(fail)
  go_cut[8] (fun v8 wc=> ∃ (kq:Nat) (x8_5:Bool),v8= .bool x8_5∧Aside0 (aC.j0 kq x8_5 l0_0 a1_0 a1_1 a1_2 a1_3=some r)∧Aside0 (kq≤k)∧Aside0 (wc.heap[gb101]? =some (.cells #[(.slice A0_0 l0_0.length c0_0)] 75 (0,0)))∧Aside0 (wc.heap[gb102]? =some (.cells #[.int .i64 a1_0,.int .i64 a1_1,.int .i64 a1_2,.string a1_3] 166 (0,0)))∧Aside0 (Below w.heap.size w wc))
  case first=>
   have H:=HC6.out;clear HC6;by_cases c7:a1_1 < 1
   ·rw[if_pos c7] at H
    have c7b0:=zFq c7;clear c7;(first|rw[c7b0] |(simp only[i64_w,i32_w];rw[c7b0])|skip)
    have H':=zA H;clear H;have hnb8:=NB102_101.out;have hnc8:=NB101_102.out;obtain⟨_,_,_,_,_,_,_,_⟩:=qc4f BK102.out;go_wp2;go_meet
    case rel=>exact⟨_,(true),qF_,H',⟨by first|omega|exact Nat.le_refl _⟩,⟨by exact BK101.out⟩,⟨by exact BK102.out⟩,⟨qB⟩⟩
   rw[if_neg c7] at H;have c7b0:=zGq c7;clear c7;(first|rw[c7b0] |(simp only[i64_w,i32_w];rw[c7b0])|skip)
   have H':=zA H;clear H;have hnb10:=NB102_101.out;have hnc10:=NB101_102.out;obtain⟨_,_,_,_,_,_,_,_⟩:=qc4f BK102.out;go_wp2;go_meet
   case rel=>exact⟨_,(decide (a1_1 > 3)),qF_,H',⟨by first|omega|exact Nat.le_refl _⟩,⟨by exact BK101.out⟩,⟨by exact BK102.out⟩,⟨qB⟩⟩
  case rest=>
   clear HC6;try clear c1
   try clear p2
   try clear c7
   try clear c7b0
   try clear c8
   try clear c10
   obtain⟨kq,x8_5,rfl,HA,HJ5,BK101,BK102,HB⟩:=hcut;cases kq with
   |zero=>exact absurd HA.out (by simp[aC.j0])
   |succ kj5=>
    have H:=HA.out;clear HA;simp only[aC.j0] at H;by_cases c12:x8_5=true
    ·subst c12
     have H1:(some 30)=some r:=by first|(rw[if_pos rfl] at H;exact H)|rfl
     clear H;have H:=H1;clear H1;obtain rfl:=zKq H;go_wp2;go_ret;exact⟨qE,qB⟩
    replace c12:=Bool.eq_false_iff.mpr c12;subst c12;have H1:(if a1_0 < 0 then(aC.j1 kj5 true l0_0 a1_0 a1_1 a1_2 a1_3)else(aC.j1 kj5 (decide (a1_0≥(l0_0.length:Int))) l0_0 a1_0 a1_1 a1_2 a1_3))=some r:=by first|(rw[if_neg (show ¬ (false=true) by decide)] at H;exact H)|rfl
    clear H;have H:=H1;clear H1;have HC13:=zA H;clear H;go_upto_region 3 with(fail)
    go_cut[17] (fun v17 wc=> ∃ (kq:Nat) (x17_12:Bool),v17= .bool x17_12∧Aside0 (aC.j1 kq x17_12 l0_0 a1_0 a1_1 a1_2 a1_3=some r)∧Aside0 (kq≤kj5)∧Aside0 (wc.heap[gb101]? =some (.cells #[(.slice A0_0 l0_0.length c0_0)] 75 (0,0)))∧Aside0 (wc.heap[gb102]? =some (.cells #[.int .i64 a1_0,.int .i64 a1_1,.int .i64 a1_2,.string a1_3] 166 (0,0)))∧Aside0 (Below w.heap.size w wc))
    case first=>
     have H:=HC13.out;clear HC13;by_cases c14:a1_0 < 0
     ·rw[if_pos c14] at H
      have c14b0:=zFq c14;clear c14;(first|rw[c14b0] |(simp only[i64_w,i32_w];rw[c14b0])|skip)
      have H':=zA H;clear H;have hnb15:=NB102_101.out;have hnc15:=NB101_102.out;obtain⟨_,_,_,_,_,_,_,_⟩:=qc4f BK102.out;go_wp2;go_meet
      case rel=>exact⟨_,(true),qF_,H',⟨by have:=HJ5.out;first|omega|exact Nat.le_refl _⟩,⟨by exact BK101.out⟩,⟨by exact BK102.out⟩,⟨qB⟩⟩
     rw[if_neg c14] at H;have c14b0:=zGq c14;clear c14;(first|rw[c14b0] |(simp only[i64_w,i32_w];rw[c14b0])|skip)
     have H':=zA H;clear H;have hnb17:=NB102_101.out;have hnc17:=NB101_102.out;obtain⟨_,_,_,_,_,_,_,_⟩:=qc4f BK102.out;have hcz19_0:wc.cell? ⟨gb101,0,none⟩=some (.slice A0_0 l0_0.length c0_0):=(zF BK101.out 0).trans rfl;have hfz19_0:=zG BK101.out 0;go_wp2;go_meet
     case rel=>exact⟨_,(decide (a1_0≥(l0_0.length:Int))),qF_,H',⟨by have:=HJ5.out;first|omega|exact Nat.le_refl _⟩,⟨by exact BK101.out⟩,⟨by exact BK102.out⟩,⟨qB⟩⟩
    case rest=>
     clear HC13;try clear c1
     try clear p2
     try clear c7
     try clear c7b0
     try clear c8
     try clear c10
     try clear c12
     try clear c14
     try clear c14b0
     try clear c15
     try clear c17
     try clear hcz19_0
     try clear hfz19_0
     try clear p2
     obtain⟨kq,x17_12,rfl,HA,HJ12,BK101,BK102,HB⟩:=hcut;cases kq with
     |zero=>exact absurd HA.out (by simp[aC.j1])
     |succ kj12=>
      have H:=HA.out;clear HA;simp only[aC.j1] at H;by_cases c20:x17_12=true
      ·subst c20
       have H1:(some 2)=some r:=by first|(rw[if_pos rfl] at H;exact H)|rfl
       clear H;have H:=H1;clear H1;obtain rfl:=zKq H;go_wp2;go_ret;exact⟨qE,qB⟩
      replace c20:=Bool.eq_false_iff.mpr c20;subst c20;have H1:(if a1_2 < 1 then(aC.j2 kj12 true l0_0 a1_0 a1_1 a1_2 a1_3)else(aC.j2 kj12 (decide (a1_2 > 999999)) l0_0 a1_0 a1_1 a1_2 a1_3))=some r:=by first|(rw[if_neg (show ¬ (false=true) by decide)] at H;exact H)|rfl
      clear H;have H:=H1;clear H1;have HC21:=zA H;clear H;go_upto_region 5 with(fail)
      go_cut[29] (fun v29 wc=> ∃ (kq:Nat) (x29_20:Bool),v29= .bool x29_20∧Aside0 (aC.j2 kq x29_20 l0_0 a1_0 a1_1 a1_2 a1_3=some r)∧Aside0 (kq≤kj12)∧Aside0 (wc.heap[gb101]? =some (.cells #[(.slice A0_0 l0_0.length c0_0)] 75 (0,0)))∧Aside0 (wc.heap[gb102]? =some (.cells #[.int .i64 a1_0,.int .i64 a1_1,.int .i64 a1_2,.string a1_3] 166 (0,0)))∧Aside0 (Below w.heap.size w wc))
      case first=>
       have H:=HC21.out;clear HC21;by_cases c22:a1_2 < 1
       ·rw[if_pos c22] at H
        have c22b0:=zFq c22;clear c22;(first|rw[c22b0] |(simp only[i64_w,i32_w];rw[c22b0])|skip)
        have H':=zA H;clear H;have hnb23:=NB102_101.out;have hnc23:=NB101_102.out;obtain⟨_,_,_,_,_,_,_,_⟩:=qc4f BK102.out;go_wp2;go_meet
        case rel=>exact⟨_,(true),qF_,H',⟨by have:=HJ5.out;have:=HJ12.out;first|omega|exact Nat.le_refl _⟩,⟨by exact BK101.out⟩,⟨by exact BK102.out⟩,⟨qB⟩⟩
       rw[if_neg c22] at H;have c22b0:=zGq c22;clear c22;(first|rw[c22b0] |(simp only[i64_w,i32_w];rw[c22b0])|skip)
       have H':=zA H;clear H;have hnb25:=NB102_101.out;have hnc25:=NB101_102.out;obtain⟨_,_,_,_,_,_,_,_⟩:=qc4f BK102.out;go_wp2;go_meet
       case rel=>exact⟨_,(decide (a1_2 > 999999)),qF_,H',⟨by have:=HJ5.out;have:=HJ12.out;first|omega|exact Nat.le_refl _⟩,⟨by exact BK101.out⟩,⟨by exact BK102.out⟩,⟨qB⟩⟩
      case rest=>
       clear HC21;try clear c1
       try clear c2
       try clear p2
       try clear c7
       try clear c7b0
       try clear c8
       try clear c10
       try clear c12
       try clear c14
       try clear c14b0
       try clear c15
       try clear c17
       try clear c20
       try clear c22
       try clear c22b0
       try clear c23
       try clear c25
       try clear hcz19_0
       try clear hfz19_0
       try clear p2
       obtain⟨kq,x29_20,rfl,HA,HJ20,BK101,BK102,HB⟩:=hcut;cases kq with
       |zero=>exact absurd HA.out (by simp[aC.j2])
       |succ kj20=>
        have H:=HA.out;clear HA;simp only[aC.j2] at H;by_cases c27:x29_20=true
        ·subst c27
         have H1:(some 31)=some r:=by first|(rw[if_pos rfl] at H;exact H)|rfl
         clear H;have H:=H1;clear H1;obtain rfl:=zKq H;go_wp2;go_ret;exact⟨qE,qB⟩
        replace c27:=Bool.eq_false_iff.mpr c27;subst c27;have H1:(if a1_1=3 then(aC.j3 kj20 l0_0 a1_0 a1_1 a1_2 a1_3)else(if(a1_3.size:Int) > 200 then(some 3)else(aC.j3 kj20 l0_0 a1_0 a1_1 a1_2 a1_3)))=some r:=by first|(rw[if_neg (show ¬ (false=true) by decide)] at H;exact H)|rfl
        clear H;have H:=H1;clear H1;by_cases c28:a1_1=3
        ·rw[if_pos c28] at H
         have c28b0:(a1_1==3)=true:=beq_iff_eq.mpr c28;have c28b1:(a1_1 != 3)=false:=bne_eq_false_iff_eq.mpr c28;clear c28;have H':=zA H;clear H;have hnb29:=NB102_101.out;have hnc29:=NB101_102.out;obtain⟨_,_,_,_,_,_,_,_⟩:=qc4f BK102.out;go_wp2;go_meet
         case rel=>exact⟨_,H',⟨by have:=HJ5.out;have:=HJ12.out;have:=HJ20.out;first|omega|exact Nat.le_refl _⟩,⟨by exact BK101.out⟩,⟨by exact BK102.out⟩,⟨qB⟩⟩
        rw[if_neg c28] at H;have c28b0:(a1_1==3)=false:=beq_eq_false_iff_ne.mpr c28;have c28b1:(a1_1 != 3)=true:=bne_iff_ne.mpr c28;by_cases c31:(a1_3.size:Int) > 200
        ·rw[if_pos c31] at H
         have c31b0:decide (200 < (a1_3.size:Int))=true:=zFq c31;have c31b1:decide (200 < a1_3.size)=true:=zFq (by omega);clear c31;obtain rfl:=zKq H;have hnb32:=NB102_101.out;have hnc32:=NB101_102.out;obtain⟨_,_,_,_,_,_,_,_⟩:=qc4f BK102.out;go_wp2;go_ret;exact⟨qE,qB⟩
        rw[if_neg c31] at H;have c31b0:decide (200 < (a1_3.size:Int))=false:=zGq c31;have c31b1:decide (200 < a1_3.size)=false:=zGq (by omega);clear c31;have H':=zA H;clear H;have hnb34:=NB102_101.out;have hnc34:=NB101_102.out;obtain⟨_,_,_,_,_,_,_,_⟩:=qc4f BK102.out;go_wp2;go_meet
        case rel=>exact⟨_,H',⟨by have:=HJ5.out;have:=HJ12.out;have:=HJ20.out;first|omega|exact Nat.le_refl _⟩,⟨by exact BK101.out⟩,⟨by exact BK102.out⟩,⟨qB⟩⟩
 case rest=>
  clear HC3;try clear c1
  try clear c2
  try clear p2
  try clear c3
  try clear c7
  try clear c7b0
  try clear c8
  try clear c10
  try clear c12
  try clear c14
  try clear c14b0
  try clear c15
  try clear c17
  try clear c20
  try clear c22
  try clear c22b0
  try clear c23
  try clear c25
  try clear c27
  try clear c28
  try clear c28b0
  try clear c28b1
  try clear c29
  try clear c31
  try clear c31b0
  try clear c31b1
  try clear c32
  try clear c34
  try clear hcz19_0
  try clear hfz19_0
  try clear p2
  obtain⟨kq,HA,HJ2,BK101,BK102,HB⟩:=hcut;cases kq with
  |zero=>exact absurd HA.out (by simp[aC.j3])
  |succ kj2=>
   have H:=HA.out;clear HA;simp only[aC.j3] at H;by_cases c36:0≤a1_0
   ·rw[if_pos c36] at H
    have c36b0:=zFq c36;clear c36;by_cases c37:a1_0 < (l0_0.length:Int)
    ·rw[if_pos c37] at H
     have c37b0:=zFq c37;clear c37;obtain⟨⟨t104,t105⟩,A38,H⟩:=qD_ H;(try dsimp only at H);have HC39:=zA H;clear H;have hnb40:=NB101_102.out;have hnc40:=NB102_101.out;have hcz41_0:wc.cell? ⟨gb101,0,none⟩=some (.slice A0_0 l0_0.length c0_0):=(zF BK101.out 0).trans rfl;have hfz41_0:=zG BK101.out 0;obtain⟨_,_,_,_,_,_,_,_⟩:=qc4f BK102.out;have p103:0≤(a1_0:Int):=qO_;have q103:a1_0 < (l0_0.length:Int):=qO_;obtain⟨ad103,A103_0,c103_0,e103,hx103_0,hl103_0,hi103_0⟩:=at_L22 HR0_0.out a1_0 p103 q103;cases e103
     replace hx103_0:=qU_ hx103_0;have HR103_0:=zA hi103_0;have HC103_0:=zA hl103_0;clear hi103_0 hl103_0;replace p103:=eq_true p103;replace q103:=eq_true q103;go_upto_region 11 with(first|((with_reducible refine zJq (f:=102) rfl ?_);refine goesL_ (some 58) rfl rfl Try.func102 (by kernel_rfl) rfl #[.slice A103_0 (rd_L22 l0_0 a1_0).length c103_0,.int .i64 a1_2] rfl qG ?_;(with_reducible refine(bL.calls kj2 _ _ (rd_L22 l0_0 a1_0) a1_2 t104 t105 _ ?side1 ?side2 A38.out).mono ?_);(case side1=>exact qC (Kd.C_below HR103_0.out HB.out));(case side2=>exact HC103_0.out);rintro e w43 ⟨rfl,hb⟩;refine⟨_,rfl,?_⟩;replace BK101:=zA (qX BK101.out hb);replace BK102:=zA (qX BK102.out hb);replace HB:=zA (zV qB hb);(try clear hb)))
     (try simp only[Act.put,zH,zI,zJ])
     go_cut[61] (fun v61 wc=> ∃ (kq:Nat) (x61_38:Bool),v61= .bool x61_38∧Aside0 (aC.j4 kq (rd_L22 l0_0 a1_0) t105 x61_38 a1_0 a1_1 a1_2 a1_3=some r)∧Aside0 (kq≤kj2)∧Aside0 (wc.heap[gb101]? =some (.cells #[(.slice (some ad103) l0_0.length c0_0)] 75 (0,0)))∧Aside0 (wc.heap[gb102]? =some (.cells #[.int .i64 a1_0,.int .i64 a1_1,.int .i64 a1_2,.string a1_3] 166 (0,0)))∧Aside0 (Below w.heap.size w wc))
     case first=>
      have H:=HC39.out;clear HC39;by_cases c44:a1_1=1
      ·rw[if_pos c44] at H
       have c44b0:(a1_1==1)=true:=beq_iff_eq.mpr c44;have c44b1:(a1_1 != 1)=false:=bne_eq_false_iff_eq.mpr c44;clear c44;(first|rw[c44b0] |(simp only[i64_w,i32_w];rw[c44b0])|skip)
       have H':=zA H;clear H;have hnb45:=NB102_101.out;have hnc45:=NB101_102.out;obtain⟨_,_,_,_,_,_,_,_⟩:=qc4f BK102.out;go_wp2;go_meet
       case rel=>exact⟨_,(t105),qF_,H',⟨by have:=HJ2.out;first|omega|exact Nat.le_refl _⟩,⟨by exact BK101.out⟩,⟨by exact BK102.out⟩,⟨qB⟩⟩
      rw[if_neg c44] at H;have c44b0:(a1_1==1)=false:=beq_eq_false_iff_ne.mpr c44;have c44b1:(a1_1 != 1)=true:=bne_iff_ne.mpr c44;(first|rw[c44b0] |(simp only[i64_w,i32_w];rw[c44b0])|skip)
      have H':=zA H;clear H;have hnb47:=NB102_101.out;have hnc47:=NB101_102.out;obtain⟨_,_,_,_,_,_,_,_⟩:=qc4f BK102.out;go_wp2;go_meet
      case rel=>exact⟨_,(false),qF_,H',⟨by have:=HJ2.out;first|omega|exact Nat.le_refl _⟩,⟨by exact BK101.out⟩,⟨by exact BK102.out⟩,⟨qB⟩⟩
     case rest=>
      clear HC39;try clear c1
      try clear p1
      try clear q1
      try clear hx1
      try clear c2
      try clear p2
      try clear c3
      try clear c4
      try clear c7
      try clear c7b0
      try clear c8
      try clear c10
      try clear p10
      try clear q10
      try clear hx10
      try clear c12
      try clear c14
      try clear c14b0
      try clear c15
      try clear c17
      try clear c20
      try clear c22
      try clear c22b0
      try clear c23
      try clear c25
      try clear c27
      try clear c28
      try clear c28b0
      try clear c28b1
      try clear c29
      try clear c31
      try clear c31b0
      try clear c31b1
      try clear c32
      try clear c34
      try clear c36
      try clear c36b0
      try clear c37
      try clear c37b0
      try clear c40
      try clear c44
      try clear c44b0
      try clear c44b1
      try clear c45
      try clear c47
      try clear hcz19_0
      try clear hcz41_0
      try clear hfz19_0
      try clear hfz41_0
      try clear hx103_0
      try clear p103
      try clear p2
      try clear q103
      obtain⟨kq,x61_38,rfl,HA,HJ38,BK101,BK102,HB⟩:=hcut;cases kq with
      |zero=>exact absurd HA.out (by simp[aC.j4])
      |succ kj38=>
       have H:=HA.out;clear HA;simp only[aC.j4] at H;by_cases c49:x61_38=true
       ·subst c49
        have H1:(some 32)=some r:=by first|(rw[if_pos rfl] at H;exact H)|rfl
        clear H;have H:=H1;clear H1;obtain rfl:=zKq H;go_wp2;go_ret;exact⟨qE,qB⟩
       replace c49:=Bool.eq_false_iff.mpr c49;subst c49;have H1:(if a1_1=1 then(aC.j5 kj38 t105 (decide (((rd_L22 l0_0 a1_0).length:Int)≥60)) a1_0 a1_1 a1_2 a1_3)else(aC.j5 kj38 t105 false a1_0 a1_1 a1_2 a1_3))=some r:=by first|(rw[if_neg (show ¬ (false=true) by decide)] at H;exact H)|rfl
       clear H;have H:=H1;clear H1;have HC50:=zA H;clear H;go_upto_region 13 with(fail)
       go_cut[68] (fun v68 wc=> ∃ (kq:Nat) (x68_49:Bool),v68= .bool x68_49∧Aside0 (aC.j5 kq t105 x68_49 a1_0 a1_1 a1_2 a1_3=some r)∧Aside0 (kq≤kj38)∧Aside0 (wc.heap[gb101]? =some (.cells #[(.slice (some ad103) l0_0.length c0_0)] 75 (0,0)))∧Aside0 (wc.heap[gb102]? =some (.cells #[.int .i64 a1_0,.int .i64 a1_1,.int .i64 a1_2,.string a1_3] 166 (0,0)))∧Aside0 (Below w.heap.size w wc))
       case first=>
        have H:=HC50.out;clear HC50;by_cases c51:a1_1=1
        ·rw[if_pos c51] at H
         have c51b0:(a1_1==1)=true:=beq_iff_eq.mpr c51;have c51b1:(a1_1 != 1)=false:=bne_eq_false_iff_eq.mpr c51;clear c51;(first|rw[c51b0] |(simp only[i64_w,i32_w];rw[c51b0])|skip)
         have H':=zA H;clear H;have hnb52:=NB102_101.out;have hnc52:=NB101_102.out;obtain⟨_,_,_,_,_,_,_,_⟩:=qc4f BK102.out;go_wp2;go_meet
         case rel=>exact⟨_,(decide (((rd_L22 l0_0 a1_0).length:Int)≥60)),qF_,H',⟨by have:=HJ2.out;have:=HJ38.out;first|omega|exact Nat.le_refl _⟩,⟨by exact BK101.out⟩,⟨by exact BK102.out⟩,⟨qB⟩⟩
        rw[if_neg c51] at H;have c51b0:(a1_1==1)=false:=beq_eq_false_iff_ne.mpr c51;have c51b1:(a1_1 != 1)=true:=bne_iff_ne.mpr c51;(first|rw[c51b0] |(simp only[i64_w,i32_w];rw[c51b0])|skip)
        have H':=zA H;clear H;have hnb54:=NB102_101.out;have hnc54:=NB101_102.out;obtain⟨_,_,_,_,_,_,_,_⟩:=qc4f BK102.out;go_wp2;go_meet
        case rel=>exact⟨_,(false),qF_,H',⟨by have:=HJ2.out;have:=HJ38.out;first|omega|exact Nat.le_refl _⟩,⟨by exact BK101.out⟩,⟨by exact BK102.out⟩,⟨qB⟩⟩
       case rest=>
        clear HC50;try clear c1
        try clear p1
        try clear q1
        try clear hx1
        try clear c2
        try clear p2
        try clear c3
        try clear c4
        try clear c5
        try clear c7
        try clear c7b0
        try clear c8
        try clear c10
        try clear p10
        try clear q10
        try clear hx10
        try clear c12
        try clear c14
        try clear c14b0
        try clear c15
        try clear c17
        try clear c20
        try clear c22
        try clear c22b0
        try clear c23
        try clear c25
        try clear c27
        try clear c28
        try clear c28b0
        try clear c28b1
        try clear c29
        try clear c31
        try clear c31b0
        try clear c31b1
        try clear c32
        try clear c34
        try clear c36
        try clear c36b0
        try clear c37
        try clear c37b0
        try clear c40
        try clear c44
        try clear c44b0
        try clear c44b1
        try clear c45
        try clear c47
        try clear c49
        try clear c51
        try clear c51b0
        try clear c51b1
        try clear c52
        try clear c54
        try clear hcz19_0
        try clear hcz41_0
        try clear hfz19_0
        try clear hfz41_0
        try clear hx103_0
        try clear p1
        try clear p10
        try clear p103
        try clear p2
        try clear q1
        try clear q10
        try clear q103
        obtain⟨kq,x68_49,rfl,HA,HJ49,BK101,BK102,HB⟩:=hcut;cases kq with
        |zero=>exact absurd HA.out (by simp[aC.j5])
        |succ kj49=>
         have H:=HA.out;clear HA;simp only[aC.j5] at H;by_cases c56:x68_49=true
         ·subst c56
          have H1:(some 37)=some r:=by first|(rw[if_pos rfl] at H;exact H)|rfl
          clear H;have H:=H1;clear H1;obtain rfl:=zKq H;go_wp2;go_ret;exact⟨qE,qB⟩
         replace c56:=Bool.eq_false_iff.mpr c56;subst c56;have H1:(if a1_1=1 then(some 0)else(if t105=true then(some 0)else(some 31)))=some r:=by first|(rw[if_neg (show ¬ (false=true) by decide)] at H;exact H)|rfl
         clear H;have H:=H1;clear H1;by_cases c57:a1_1=1
         ·rw[if_pos c57] at H
          have c57b0:(a1_1==1)=true:=beq_iff_eq.mpr c57;have c57b1:(a1_1 != 1)=false:=bne_eq_false_iff_eq.mpr c57;clear c57;obtain rfl:=zKq H;have hnb58:=NB102_101.out;have hnc58:=NB101_102.out;obtain⟨_,_,_,_,_,_,_,_⟩:=qc4f BK102.out;go_wp2;go_ret;exact⟨qE,qB⟩
         rw[if_neg c57] at H;have c57b0:(a1_1==1)=false:=beq_eq_false_iff_ne.mpr c57;have c57b1:(a1_1 != 1)=true:=bne_iff_ne.mpr c57;by_cases c60:t105=true
         ·subst c60
          have H1:(some 0)=some r:=by first|(rw[if_pos rfl] at H;exact H)|rfl
          clear H;have H:=H1;clear H1;obtain rfl:=zKq H;have hnb61:=NB102_101.out;have hnc61:=NB101_102.out;obtain⟨_,_,_,_,_,_,_,_⟩:=qc4f BK102.out;go_wp2;go_ret;exact⟨qE,qB⟩
         replace c60:=Bool.eq_false_iff.mpr c60;subst c60;have H1:(some 31)=some r:=by first|(rw[if_neg (show ¬ (false=true) by decide)] at H;exact H)|rfl
         clear H;have H:=H1;clear H1;obtain rfl:=zKq H;have hnb63:=NB102_101.out;have hnc63:=NB101_102.out;obtain⟨_,_,_,_,_,_,_,_⟩:=qc4f BK102.out;go_wp2;go_ret;exact⟨qE,qB⟩
    rw[if_neg c37] at H;exact absurd H (by simp)
   rw[if_neg c36] at H;exact absurd H (by simp)
def cP.f (l0:List (S164)) (a1:Int) (a2_0:Int) (a2_1:ByteArray):Option (List (S164) × Int):=if a1 < 0 then some ([],2)else if a1 > (l0.length:Int)then some ([],2)else if l0.length+1 < 5864062014805 then some (l0.take a1.toNat++(⟨a2_0,a2_1⟩:S164)::l0.drop (a1.toNat),0)else none
theorem cP.good (A0:Option Addr) (c0:Nat) (l0:List (S164)) (n:Nat) (a2_0:Int) (a2_1:ByteArray) (w:World) (hr0:Kd.C k164 w A0 l0.length l0) (hc0:l0.length≤c0) (hn:n≤l0.length) (h3:l0.length+1 < 5864062014805):
  Calls Try.prog 144 #[.slice A0 l0.length c0,.int .i64 (n:Int),.agg #[.int .i64 a2_0,.string a2_1]] w fun e w'=> ∃ v0_:Value,e= .returned (.tuple #[v0_,.int .i64 0])∧Kd.R k164 164 w' w.heap.size (fun _=>True) v0_ (l0.take n++(⟨a2_0,a2_1⟩:S164)::l0.drop (n))∧Below w.heap.size w w':=by
 obtain⟨i0,hi,hzz⟩:=Option.map_eq_some_iff.1 info164
 simp only[zOq] at hzz
 have k1:=cut_full (P:=Try.prog) 162 164 .i64 .i64 Try.underlying162 hi A0 l0.length c0 n (by omega) hc0
 have k2:=cut_from (P:=Try.prog) 162 164 .i64 Try.underlying162 hi 2 hzz.2.1 A0 l0.length c0 ((n:Int)) (n) (by omega) hn hc0
 have t1:decide ((n:Int) < 0)=false:=zGq (by omega)
 have t2:decide (l0.length < n)=false:=zGq (by omega)
 have HT:Aside0 (Kd.C k164 w A0 n (l0.take n)):=⟨by have:=Kd.C_take hr0 (show n≤l0.length by omega);rwa [zQ,Nat.min_eq_left (show n≤l0.length by omega)] at this⟩
 obtain⟨A2,hA2⟩: ∃ A2,A2=(if c0=n then A0 else A0.map (·.add ((n) * 2))):=⟨_,rfl⟩
 have HD:Aside0 (Kd.C k164 w A2 (l0.length - (n)) (l0.drop (n))):=⟨by have:=Kd.C_drop hr0 hn hc0;rw[zP] at this;rw[hA2];exact this⟩
 rw[←hA2] at k2
 clear hA2
 skip
 have HC0:=zA hc0
 have HN:=zA hn
 have H3:=zA h3
 have HI:=zA info164
 clear hr0 hc0 hn h3
 have HB:=zA (Below.refl w.heap.size w)
 go_enter Try.func144,Try.ntmps144
 go_wp2_with (first|((with_reducible refine gate_dst (N:=5) rfl ?_);refine box_event qr (N:=5) qr (cs:= #[.int .i64 a2_0,.string a2_1]) (t:=164) qg ?_;intro gb101 hg w3 hbox hb;have BK101:=zA (hbox);have GE101:=zA ((by rw[hg];exact(zW HB.out)):w.heap.size≤gb101);replace HB:=zA (zV HB.out hb);clear hb hbox hg))
 repeat(go_quiet (first|((with_reducible refine gate_dst (N:=5) rfl ?_);refine box_event qr (N:=5) qr (cs:= #[.int .i64 a2_0,.string a2_1]) (t:=164) qg ?_;intro gb101 hg w3 hbox hb;have BK101:=zA (hbox);have GE101:=zA ((by rw[hg];exact(zW HB.out)):w.heap.size≤gb101);replace HB:=zA (zV HB.out hb);clear hb hbox hg));try go_wp2_with (first|((with_reducible refine gate_dst (N:=5) rfl ?_);refine box_event qr (N:=5) qr (cs:= #[.int .i64 a2_0,.string a2_1]) (t:=164) qg ?_;intro gb101 hg w3 hbox hb;have BK101:=zA (hbox);have GE101:=zA ((by rw[hg];exact(zW HB.out)):w.heap.size≤gb101);replace HB:=zA (zV HB.out hb);clear hb hbox hg)))
 have hcz7_0:w3.cell? ⟨gb101,0,none⟩=some (.int .i64 a2_0):=(zF BK101.out 0).trans rfl;have hfz7_0:=zG BK101.out 0;have hcz7_1:w3.cell? ⟨gb101,1,none⟩=some (.string a2_1):=(zF BK101.out 1).trans rfl;have hfz7_1:=zG BK101.out 1
 go_wp2
 go_region_law (first
  |(refine step_append_full k164 flat_k164 rfl (.tmp 19) (.tmp 21) 162 164 _ _ rfl Try.underlying162 HI.out rfl (by decide) (by decide) A0 n (l0.take n) rfl ?c1 ⟨w3.heap.size,0,none⟩ 1 1 [(⟨a2_0,a2_1⟩:S164)] rfl ?c2 (by decide) ?c3 ?c4;(case c1=>exact Kd.C_below HT.out (below_drew (zD HB.out _)));(case c2=>exact Kd.C_below (C_lit1 (d:=k164) (k164_mk _ (⟨a2_0,a2_1⟩:S164))) (below_drew (Below.refl _ _)));(case c3=>simp only[zQ,List.length_singleton];have:=H3.out;have:=HN.out;omega);intro v1 w1 ho1 hb1;have HO1:=zA (Kd.R_lower ho1 (base':=w.heap.size) (by have:=HB.out.size;simp;omega));have HB1:=zA (below_then (below_drew (zD HB.out (.cells ([.int .i64 a2_0,.string a2_1] :List Value).toArray 164))) (by have:=HB.out.size;simp;omega) hb1);clear ho1 hb1)
  |(refine Kd.R_append_rows_step k164 (Rr:=(k164).K w1) (w0:=w) w.heap.size (by simp[Region.wanted]) (.tmp 22) (.tmp 25) 162 164 _ _ rfl Try.underlying162 HI.out rfl (by decide) (by decide) v1 (l0.take n++ [(⟨a2_0,a2_1⟩:S164)]) (l0.drop (n)) _ (l0.length - (n)) (c0 - (n)) (fun _=>True) (fun k=>some k≠v1.ownBlock) rfl rfl HO1.out ?d1 ?d2 (fun _ h=> ⟨trivial,h⟩) (fun _ _=>trivial) HB1.out (HB1.out.size) ?d3 ?d4;(case d1=>exact Kd.C_below HD.out HB1.out);(case d2=>exact fun x cs h=>flat_k164 _ _ _ _ _ h);(case d3=>simp only[zQ,List.length_append,List.length_singleton];have:=H3.out;have:=HN.out;omega);intro v2 w2 ho2 hb2 hg2 ha2;have HO2:=zA ho2;have HB2:=zA hb2;clear ho2 hb2 hg2 ha2))
 go_wp2
 go_ret2
 exact⟨v2,by first|rfl|(simp;rfl),by simpa using HO2.out,HB2.out⟩
theorem cP.calls (A0:Option Addr) (c0:Nat) (l0:List (S164)) (a1:Int) (a2_0:Int) (a2_1:ByteArray) (r1:List (S164)) (r2:Int) (w:World) (hr0:Kd.C k164 w A0 l0.length l0) (hc0:l0.length≤c0) (h:cP.f l0 a1 a2_0 a2_1=some (r1,r2)):
  Calls Try.prog 144 #[.slice A0 l0.length c0,.int .i64 a1,.agg #[.int .i64 a2_0,.string a2_1]] w fun e w'=> ∃ v0_:Value,e= .returned (.tuple #[v0_,.int .i64 r2])∧Kd.R k164 164 w' w.heap.size (fun _=>True) v0_ r1∧Below w.heap.size w w':=by
 unfold cP.f at h
 by_cases h1:a1 < 0
 ·rw[if_pos h1] at h
  simp only[zNq,zOq] at h;obtain⟨rfl,rfl⟩:=h;have h1':decide (a1 < 0)=true:=zFq h1;clear h1 hr0;have HB:=zA (Below.refl w.heap.size w);go_enter Try.func144,Try.ntmps144;go_wp2_with (first|((with_reducible refine gate_dst (N:=5) rfl ?_);refine box_event qr (N:=5) qr (cs:= #[.int .i64 a2_0,.string a2_1]) (t:=164) qg ?_;intro gb101 hg w3 hbox hb;have BK101:=zA (hbox);have GE101:=zA ((by rw[hg];exact(zW HB.out)):w.heap.size≤gb101);replace HB:=zA (zV HB.out hb);clear hb hbox hg));repeat(go_quiet (first|((with_reducible refine gate_dst (N:=5) rfl ?_);refine box_event qr (N:=5) qr (cs:= #[.int .i64 a2_0,.string a2_1]) (t:=164) qg ?_;intro gb101 hg w3 hbox hb;have BK101:=zA (hbox);have GE101:=zA ((by rw[hg];exact(zW HB.out)):w.heap.size≤gb101);replace HB:=zA (zV HB.out hb);clear hb hbox hg));try go_wp2_with (first|((with_reducible refine gate_dst (N:=5) rfl ?_);refine box_event qr (N:=5) qr (cs:= #[.int .i64 a2_0,.string a2_1]) (t:=164) qg ?_;intro gb101 hg w3 hbox hb;have BK101:=zA (hbox);have GE101:=zA ((by rw[hg];exact(zW HB.out)):w.heap.size≤gb101);replace HB:=zA (zV HB.out hb);clear hb hbox hg)))
  go_ret2;exact⟨_,rfl,Kd.R_nil _ _ _ _ _,HB.out⟩
 rw[if_neg h1] at h
 by_cases h2:a1 > (l0.length:Int)
 ·rw[if_pos h2] at h
  simp only[zNq,zOq] at h;obtain⟨rfl,rfl⟩:=h;have h1':decide (a1 < 0)=false:=zGq h1;have h2':decide ((l0.length:Int) < a1)=true:=zFq h2;clear h1 hr0;have HB:=zA (Below.refl w.heap.size w);go_enter Try.func144,Try.ntmps144;go_wp2_with (first|((with_reducible refine gate_dst (N:=5) rfl ?_);refine box_event qr (N:=5) qr (cs:= #[.int .i64 a2_0,.string a2_1]) (t:=164) qg ?_;intro gb101 hg w3 hbox hb;have BK101:=zA (hbox);have GE101:=zA ((by rw[hg];exact(zW HB.out)):w.heap.size≤gb101);replace HB:=zA (zV HB.out hb);clear hb hbox hg));repeat(go_quiet (first|((with_reducible refine gate_dst (N:=5) rfl ?_);refine box_event qr (N:=5) qr (cs:= #[.int .i64 a2_0,.string a2_1]) (t:=164) qg ?_;intro gb101 hg w3 hbox hb;have BK101:=zA (hbox);have GE101:=zA ((by rw[hg];exact(zW HB.out)):w.heap.size≤gb101);replace HB:=zA (zV HB.out hb);clear hb hbox hg));try go_wp2_with (first|((with_reducible refine gate_dst (N:=5) rfl ?_);refine box_event qr (N:=5) qr (cs:= #[.int .i64 a2_0,.string a2_1]) (t:=164) qg ?_;intro gb101 hg w3 hbox hb;have BK101:=zA (hbox);have GE101:=zA ((by rw[hg];exact(zW HB.out)):w.heap.size≤gb101);replace HB:=zA (zV HB.out hb);clear hb hbox hg)))
  go_ret2;exact⟨_,rfl,Kd.R_nil _ _ _ _ _,HB.out⟩
 rw[if_neg h2] at h
 by_cases h3:l0.length+1 < 5864062014805
 ·rw[if_pos h3] at h
  simp only[zNq,zOq] at h;obtain⟨rfl,rfl⟩:=h;obtain⟨n,rfl⟩:=Int.eq_ofNat_of_zero_le (show 0≤a1 by omega);simp only[Int.toNat_natCast];exact cP.good A0 c0 l0 n a2_0 a2_1 w hr0 hc0 (by omega) h3
 rw[if_neg h3] at h;cases h
def cQ.f (l0:List (S164)) (a1:Int) (a2_0:Int) (a2_1:ByteArray):Option (List (S164) × Int):=if a1 < 0 then some ([],2)else if a1≥(l0.length:Int)then some ([],2)else if l0.length+1 < 5864062014805 then some (l0.take a1.toNat++(⟨a2_0,a2_1⟩:S164)::l0.drop (a1.toNat+1),0)else none
theorem cQ.good (A0:Option Addr) (c0:Nat) (l0:List (S164)) (n:Nat) (a2_0:Int) (a2_1:ByteArray) (w:World) (hr0:Kd.C k164 w A0 l0.length l0) (hc0:l0.length≤c0) (hn:n+1≤l0.length) (h3:l0.length+1 < 5864062014805):
  Calls Try.prog 145 #[.slice A0 l0.length c0,.int .i64 (n:Int),.agg #[.int .i64 a2_0,.string a2_1]] w fun e w'=> ∃ v0_:Value,e= .returned (.tuple #[v0_,.int .i64 0])∧Kd.R k164 164 w' w.heap.size (fun _=>True) v0_ (l0.take n++(⟨a2_0,a2_1⟩:S164)::l0.drop (n+1))∧Below w.heap.size w w':=by
 obtain⟨i0,hi,hzz⟩:=Option.map_eq_some_iff.1 info164
 simp only[zOq] at hzz
 have k1:=cut_full (P:=Try.prog) 162 164 .i64 .i64 Try.underlying162 hi A0 l0.length c0 n (by omega) hc0
 have k2:=cut_from (P:=Try.prog) 162 164 .i64 Try.underlying162 hi 2 hzz.2.1 A0 l0.length c0 ((n:Int)+1) (n+1) (by omega) hn hc0
 have t1:decide ((n:Int) < 0)=false:=zGq (by omega)
 have t2:decide (l0.length≤n)=false:=zGq (by omega)
 have HT:Aside0 (Kd.C k164 w A0 n (l0.take n)):=⟨by have:=Kd.C_take hr0 (show n≤l0.length by omega);rwa [zQ,Nat.min_eq_left (show n≤l0.length by omega)] at this⟩
 obtain⟨A2,hA2⟩: ∃ A2,A2=(if c0=n+1 then A0 else A0.map (·.add ((n+1) * 2))):=⟨_,rfl⟩
 have HD:Aside0 (Kd.C k164 w A2 (l0.length - (n+1)) (l0.drop (n+1))):=⟨by have:=Kd.C_drop hr0 hn hc0;rw[zP] at this;rw[hA2];exact this⟩
 rw[←hA2] at k2
 clear hA2
 have hw1:IntKind.i64.wrap ((n:Int)+1)=(n:Int)+1:=by have:=hr0.2.1;exact IntWalk.i64_in _ (by omega)
 have HC0:=zA hc0
 have HN:=zA hn
 have H3:=zA h3
 have HI:=zA info164
 clear hr0 hc0 hn h3
 have HB:=zA (Below.refl w.heap.size w)
 go_enter Try.func145,Try.ntmps145
 go_wp2_with (first|((with_reducible refine gate_dst (N:=5) rfl ?_);refine box_event qr (N:=5) qr (cs:= #[.int .i64 a2_0,.string a2_1]) (t:=164) qg ?_;intro gb101 hg w3 hbox hb;have BK101:=zA (hbox);have GE101:=zA ((by rw[hg];exact(zW HB.out)):w.heap.size≤gb101);replace HB:=zA (zV HB.out hb);clear hb hbox hg))
 repeat(go_quiet (first|((with_reducible refine gate_dst (N:=5) rfl ?_);refine box_event qr (N:=5) qr (cs:= #[.int .i64 a2_0,.string a2_1]) (t:=164) qg ?_;intro gb101 hg w3 hbox hb;have BK101:=zA (hbox);have GE101:=zA ((by rw[hg];exact(zW HB.out)):w.heap.size≤gb101);replace HB:=zA (zV HB.out hb);clear hb hbox hg));try go_wp2_with (first|((with_reducible refine gate_dst (N:=5) rfl ?_);refine box_event qr (N:=5) qr (cs:= #[.int .i64 a2_0,.string a2_1]) (t:=164) qg ?_;intro gb101 hg w3 hbox hb;have BK101:=zA (hbox);have GE101:=zA ((by rw[hg];exact(zW HB.out)):w.heap.size≤gb101);replace HB:=zA (zV HB.out hb);clear hb hbox hg)))
 have hcz7_0:w3.cell? ⟨gb101,0,none⟩=some (.int .i64 a2_0):=(zF BK101.out 0).trans rfl;have hfz7_0:=zG BK101.out 0;have hcz7_1:w3.cell? ⟨gb101,1,none⟩=some (.string a2_1):=(zF BK101.out 1).trans rfl;have hfz7_1:=zG BK101.out 1
 go_wp2
 go_region_law (first
  |(refine step_append_full k164 flat_k164 rfl (.tmp 19) (.tmp 21) 162 164 _ _ rfl Try.underlying162 HI.out rfl (by decide) (by decide) A0 n (l0.take n) rfl ?c1 ⟨w3.heap.size,0,none⟩ 1 1 [(⟨a2_0,a2_1⟩:S164)] rfl ?c2 (by decide) ?c3 ?c4;(case c1=>exact Kd.C_below HT.out (below_drew (zD HB.out _)));(case c2=>exact Kd.C_below (C_lit1 (d:=k164) (k164_mk _ (⟨a2_0,a2_1⟩:S164))) (below_drew (Below.refl _ _)));(case c3=>simp only[zQ,List.length_singleton];have:=H3.out;have:=HN.out;omega);intro v1 w1 ho1 hb1;have HO1:=zA (Kd.R_lower ho1 (base':=w.heap.size) (by have:=HB.out.size;simp;omega));have HB1:=zA (below_then (below_drew (zD HB.out (.cells ([.int .i64 a2_0,.string a2_1] :List Value).toArray 164))) (by have:=HB.out.size;simp;omega) hb1);clear ho1 hb1)
  |(refine Kd.R_append_rows_step k164 (Rr:=(k164).K w1) (w0:=w) w.heap.size (by simp[Region.wanted]) (.tmp 22) (.tmp 26) 162 164 _ _ rfl Try.underlying162 HI.out rfl (by decide) (by decide) v1 (l0.take n++ [(⟨a2_0,a2_1⟩:S164)]) (l0.drop (n+1)) _ (l0.length - (n+1)) (c0 - (n+1)) (fun _=>True) (fun k=>some k≠v1.ownBlock) rfl rfl HO1.out ?d1 ?d2 (fun _ h=> ⟨trivial,h⟩) (fun _ _=>trivial) HB1.out (HB1.out.size) ?d3 ?d4;(case d1=>exact Kd.C_below HD.out HB1.out);(case d2=>exact fun x cs h=>flat_k164 _ _ _ _ _ h);(case d3=>simp only[zQ,List.length_append,List.length_singleton];have:=H3.out;have:=HN.out;omega);intro v2 w2 ho2 hb2 hg2 ha2;have HO2:=zA ho2;have HB2:=zA hb2;clear ho2 hb2 hg2 ha2))
 go_wp2
 go_ret2
 exact⟨v2,by first|rfl|(simp;rfl),by simpa using HO2.out,HB2.out⟩
theorem cQ.calls (A0:Option Addr) (c0:Nat) (l0:List (S164)) (a1:Int) (a2_0:Int) (a2_1:ByteArray) (r1:List (S164)) (r2:Int) (w:World) (hr0:Kd.C k164 w A0 l0.length l0) (hc0:l0.length≤c0) (h:cQ.f l0 a1 a2_0 a2_1=some (r1,r2)):
  Calls Try.prog 145 #[.slice A0 l0.length c0,.int .i64 a1,.agg #[.int .i64 a2_0,.string a2_1]] w fun e w'=> ∃ v0_:Value,e= .returned (.tuple #[v0_,.int .i64 r2])∧Kd.R k164 164 w' w.heap.size (fun _=>True) v0_ r1∧Below w.heap.size w w':=by
 unfold cQ.f at h
 by_cases h1:a1 < 0
 ·rw[if_pos h1] at h
  simp only[zNq,zOq] at h;obtain⟨rfl,rfl⟩:=h;have h1':decide (a1 < 0)=true:=zFq h1;clear h1 hr0;have HB:=zA (Below.refl w.heap.size w);go_enter Try.func145,Try.ntmps145;go_wp2_with (first|((with_reducible refine gate_dst (N:=5) rfl ?_);refine box_event qr (N:=5) qr (cs:= #[.int .i64 a2_0,.string a2_1]) (t:=164) qg ?_;intro gb101 hg w3 hbox hb;have BK101:=zA (hbox);have GE101:=zA ((by rw[hg];exact(zW HB.out)):w.heap.size≤gb101);replace HB:=zA (zV HB.out hb);clear hb hbox hg));repeat(go_quiet (first|((with_reducible refine gate_dst (N:=5) rfl ?_);refine box_event qr (N:=5) qr (cs:= #[.int .i64 a2_0,.string a2_1]) (t:=164) qg ?_;intro gb101 hg w3 hbox hb;have BK101:=zA (hbox);have GE101:=zA ((by rw[hg];exact(zW HB.out)):w.heap.size≤gb101);replace HB:=zA (zV HB.out hb);clear hb hbox hg));try go_wp2_with (first|((with_reducible refine gate_dst (N:=5) rfl ?_);refine box_event qr (N:=5) qr (cs:= #[.int .i64 a2_0,.string a2_1]) (t:=164) qg ?_;intro gb101 hg w3 hbox hb;have BK101:=zA (hbox);have GE101:=zA ((by rw[hg];exact(zW HB.out)):w.heap.size≤gb101);replace HB:=zA (zV HB.out hb);clear hb hbox hg)))
  go_ret2;exact⟨_,rfl,Kd.R_nil _ _ _ _ _,HB.out⟩
 rw[if_neg h1] at h
 by_cases h2:a1≥(l0.length:Int)
 ·rw[if_pos h2] at h
  simp only[zNq,zOq] at h;obtain⟨rfl,rfl⟩:=h;have h1':decide (a1 < 0)=false:=zGq h1;have h2':decide ((l0.length:Int)≤a1)=true:=zFq h2;clear h1 hr0;have HB:=zA (Below.refl w.heap.size w);go_enter Try.func145,Try.ntmps145;go_wp2_with (first|((with_reducible refine gate_dst (N:=5) rfl ?_);refine box_event qr (N:=5) qr (cs:= #[.int .i64 a2_0,.string a2_1]) (t:=164) qg ?_;intro gb101 hg w3 hbox hb;have BK101:=zA (hbox);have GE101:=zA ((by rw[hg];exact(zW HB.out)):w.heap.size≤gb101);replace HB:=zA (zV HB.out hb);clear hb hbox hg));repeat(go_quiet (first|((with_reducible refine gate_dst (N:=5) rfl ?_);refine box_event qr (N:=5) qr (cs:= #[.int .i64 a2_0,.string a2_1]) (t:=164) qg ?_;intro gb101 hg w3 hbox hb;have BK101:=zA (hbox);have GE101:=zA ((by rw[hg];exact(zW HB.out)):w.heap.size≤gb101);replace HB:=zA (zV HB.out hb);clear hb hbox hg));try go_wp2_with (first|((with_reducible refine gate_dst (N:=5) rfl ?_);refine box_event qr (N:=5) qr (cs:= #[.int .i64 a2_0,.string a2_1]) (t:=164) qg ?_;intro gb101 hg w3 hbox hb;have BK101:=zA (hbox);have GE101:=zA ((by rw[hg];exact(zW HB.out)):w.heap.size≤gb101);replace HB:=zA (zV HB.out hb);clear hb hbox hg)))
  go_ret2;exact⟨_,rfl,Kd.R_nil _ _ _ _ _,HB.out⟩
 rw[if_neg h2] at h
 by_cases h3:l0.length+1 < 5864062014805
 ·rw[if_pos h3] at h
  simp only[zNq,zOq] at h;obtain⟨rfl,rfl⟩:=h;obtain⟨n,rfl⟩:=Int.eq_ofNat_of_zero_le (show 0≤a1 by omega);simp only[Int.toNat_natCast];exact cQ.good A0 c0 l0 n a2_0 a2_1 w hr0 hc0 (by omega) h3
 rw[if_neg h3] at h;cases h
def cX.f (l0:List (S164)):Option (List (S164)):=if l0.length < 5864062014805 then some l0 else none
theorem cX.calls (A0:Option Addr) (c0:Nat) (l0:List (S164)) (r:List (S164)) (w:World) (hr0:Kd.C k164 w A0 l0.length l0) (hc0:l0.length≤c0) (h:cX.f l0=some r):
  Calls Try.prog 165 #[.slice A0 l0.length c0] w fun e w'=> ∃ v0_:Value,e= .returned (v0_)∧Kd.R k164 164 w' w.heap.size (fun _=>True) v0_ r∧Below w.heap.size w w':=by
 unfold cX.f at h
 by_cases h3:l0.length < 5864062014805
 ·rw[if_pos h3] at h
  simp only[zNq] at h;subst h;have hinf:=info164;have hn:=fun(W:World)=>Lib.run_eql_slice_nil (P:=Try.prog) W 162 164 A0 l0.length c0 0 0 Try.underlying162
  have HR0:=zA hr0;have HC0:=zA hc0;have H3:=zA h3;have HI:=zA hinf;clear hr0 hc0 h3 hinf;cases A0 with
  |none=>
   have h0:l0=[] :=by
    rcases Nat.eq_zero_or_pos l0.length with h0|h0
    ·exact List.eq_nil_of_length_eq_zero h0
    obtain⟨ad,h,_⟩:=HR0.out.2.2 h0;cases h
   have H0:=zA h0;clear h0;go_enter Try.func165,Try.ntmps165;go_wp2;go_ret;exact⟨_,rfl,by rw[H0.out];exact Kd.R_nil _ _ _ _ _,by first|exact Below.refl _ _|exact zB (Below.refl _ _) _⟩
  |some ad=>
   go_enter Try.func165,Try.ntmps165;go_wp2_with (first
    |(at_builtin;refine Kd.R_append_rows k164 (Rr:=(k164).K w) (w0:=w) w.heap.size rfl (.tmp 5) (.tmp 6) 162 164 _ _ rfl Try.underlying162 HI.out rfl (by decide) (by decide) (.slice (some ⟨w.heap.size,0,none⟩) 0 0) [] l0 (some ad) l0.length c0 (fun _=>True) (fun k=>some k≠some w.heap.size) rfl rfl ?d0 ?d1 ?d2 ?d5 (fun _ _=>trivial) ?d6 ?d7 ?d3 ?d4;(case d0=>exact R_empty_lit k164 164 w);(case d1=>exact ReadsRow.imp_ HR0.out (zD (Below.refl _ _) _) (fun _ _ h=>h));(case d2=>exact fun x cs h=>flat_k164 _ _ _ _ _ ((k164).K_below (zD (Below.refl _ _) _) h));(case d5=>exact fun k hk=> ⟨trivial,hk⟩);(case d6=>exact zD (Below.refl _ _) _);(case d7=>simp);(case d3=>simp only[List.length_nil];have:=H3.out;omega);intro v2 w2 ho2 hb2 hg2 ha2;have HO2:=zA ho2;have HB2:=zA hb2;clear ho2 hb2 hg2 ha2))
   go_ret;exact⟨v2,by first|rfl|(simp;rfl),by simpa using HO2.out,HB2.out⟩
 rw[if_neg h3] at h;cases h
def cR.f (l0:List (S164)) (a1:Int):Option (List (S164) × Int):=if a1 < 0 then some ([],2)else if a1≥(l0.length:Int)then some ([],2)else if l0.length+1 < 5864062014805 then some (l0.take a1.toNat++l0.drop (a1.toNat+1),0)else none
theorem cR.good (A0:Option Addr) (c0:Nat) (l0:List (S164)) (n:Nat) (w:World) (hr0:Kd.C k164 w A0 l0.length l0) (hc0:l0.length≤c0) (hn:n+1≤l0.length) (h3:l0.length+1 < 5864062014805):
  Calls Try.prog 146 #[.slice A0 l0.length c0,.int .i64 (n:Int)] w fun e w'=> ∃ v0_:Value,e= .returned (.tuple #[v0_,.int .i64 0])∧Kd.R k164 164 w' w.heap.size (fun _=>True) v0_ (l0.take n++l0.drop (n+1))∧Below w.heap.size w w':=by
 obtain⟨i0,hi,hzz⟩:=Option.map_eq_some_iff.1 info164
 simp only[zOq] at hzz
 have k1:=cut_full (P:=Try.prog) 162 164 .i64 .i64 Try.underlying162 hi A0 l0.length c0 n (by omega) hc0
 have k2:=cut_from (P:=Try.prog) 162 164 .i64 Try.underlying162 hi 2 hzz.2.1 A0 l0.length c0 ((n:Int)+1) (n+1) (by omega) hn hc0
 have t1:decide ((n:Int) < 0)=false:=zGq (by omega)
 have t2:decide (l0.length≤n)=false:=zGq (by omega)
 have HT:Aside0 (Kd.C k164 w A0 (l0.take n).length (l0.take n)):=⟨Kd.C_take hr0 (show n≤l0.length by omega)⟩
 have HL:Aside0 ((l0.take n).length=n):=⟨by rw[zQ,Nat.min_eq_left (show n≤l0.length by omega)]⟩
 have HF:Aside0 (cX.f (l0.take n)=some (l0.take n)):=⟨by unfold cX.f;rw[if_pos (by rw[HL.out];omega)]⟩
 obtain⟨A2,hA2⟩: ∃ A2,A2=(if c0=n+1 then A0 else A0.map (·.add ((n+1) * 2))):=⟨_,rfl⟩
 have HD:Aside0 (Kd.C k164 w A2 (l0.length - (n+1)) (l0.drop (n+1))):=⟨by have:=Kd.C_drop hr0 hn hc0;rw[zP] at this;rw[hA2];exact this⟩
 rw[←hA2] at k2
 clear hA2
 have hw1:IntKind.i64.wrap ((n:Int)+1)=(n:Int)+1:=by have:=hr0.2.1;exact IntWalk.i64_in _ (by omega)
 have HC0:=zA hc0
 have HN:=zA hn
 have H3:=zA h3
 have HI:=zA info164
 clear hr0 hc0 hn h3
 have HG:Aside0 (∀ W,Below w.heap.size w W→Calls Try.prog 165 #[.slice A0 n n] W fun e w'=> ∃ v0_:Value,e= .returned (v0_)∧Kd.R k164 164 w' w.heap.size (fun _=>True) v0_ (l0.take n)∧Below w.heap.size w w'):=⟨by
  intro W hW;have:=cX.calls A0 n (l0.take n) (l0.take n) W (Kd.C_below HT.out hW) (by rw[HL.out];exact Nat.le_refl _) HF.out;rw[HL.out] at this;refine this.mono ?_;rintro e w' ⟨v,he,hR,hB⟩;exact⟨v,he,Kd.R_lower hR hW.size,below_then hW hW.size hB⟩⟩
 clear HF
 go_enter Try.func146,Try.ntmps146
 go_wp2
 go_region_law (first
  |(refine Kd.R_append_rows_step k164 (Rr:=(k164).K w1) (w0:=w) w.heap.size (by simp[Region.wanted]) (.tmp 18) (.tmp 22) 162 164 _ _ rfl Try.underlying162 HI.out rfl (by decide) (by decide) v1 (l0.take n) (l0.drop (n+1)) _ (l0.length - (n+1)) (c0 - (n+1)) (fun _=>True) (fun k=>some k≠v1.ownBlock) rfl rfl HO1.out ?d1 ?d2 (fun _ h=> ⟨trivial,h⟩) (fun _ _=>trivial) HB1.out (HB1.out.size) ?d3 ?d4;(case d1=>exact Kd.C_below HD.out HB1.out);(case d2=>exact fun x cs h=>flat_k164 _ _ _ _ _ h);(case d3=>simp only[zQ];have:=H3.out;have:=HN.out;omega);intro v2 w2 ho2 hb2 hg2 ha2;have HO2:=zA ho2;have HB2:=zA hb2;clear ho2 hb2 hg2 ha2)
  |(go_simp;go_at_call 165;refine(HG.out _ (by repeat(first|exact Below.refl _ _|apply below_drew|apply zB))).mono ?_;rintro e w1 ⟨v1,rfl,ho1,hb1⟩;have HO1:=zA ho1;have HB1:=zA hb1;clear ho1 hb1))
 go_wp2
 go_ret2
 exact⟨v2,by first|rfl|(simp;rfl),by simpa using HO2.out,HB2.out⟩
theorem cR.calls (A0:Option Addr) (c0:Nat) (l0:List (S164)) (a1:Int) (r1:List (S164)) (r2:Int) (w:World) (hr0:Kd.C k164 w A0 l0.length l0) (hc0:l0.length≤c0) (h:cR.f l0 a1=some (r1,r2)):
  Calls Try.prog 146 #[.slice A0 l0.length c0,.int .i64 a1] w fun e w'=> ∃ v0_:Value,e= .returned (.tuple #[v0_,.int .i64 r2])∧Kd.R k164 164 w' w.heap.size (fun _=>True) v0_ r1∧Below w.heap.size w w':=by
 unfold cR.f at h
 by_cases h1:a1 < 0
 ·rw[if_pos h1] at h
  simp only[zNq,zOq] at h;obtain⟨rfl,rfl⟩:=h;have h1':decide (a1 < 0)=true:=zFq h1;clear h1 hr0;go_enter Try.func146,Try.ntmps146;go_wp2;go_ret2;exact⟨_,rfl,Kd.R_nil _ _ _ _ _,Below.refl _ _⟩
 rw[if_neg h1] at h
 by_cases h2:a1≥(l0.length:Int)
 ·rw[if_pos h2] at h
  simp only[zNq,zOq] at h;obtain⟨rfl,rfl⟩:=h;have h1':decide (a1 < 0)=false:=zGq h1;have h2':decide ((l0.length:Int)≤a1)=true:=zFq h2;clear h1 hr0;go_enter Try.func146,Try.ntmps146;go_wp2;go_ret2;exact⟨_,rfl,Kd.R_nil _ _ _ _ _,Below.refl _ _⟩
 rw[if_neg h2] at h
 by_cases h3:l0.length+1 < 5864062014805
 ·rw[if_pos h3] at h
  simp only[zNq,zOq] at h;obtain⟨rfl,rfl⟩:=h;obtain⟨n,rfl⟩:=Int.eq_ofNat_of_zero_le (show 0≤a1 by omega);simp only[Int.toNat_natCast];exact cR.good A0 c0 l0 n w hr0 hc0 (by omega) h3
 rw[if_neg h3] at h;cases h
end Go.Proofs.Ytdpcgigjlcpofaa.F
