-- by prune.py (own program),out of the print
import Derived.Below
import Derived.Deep.Draws
import Derived.Deep.AppendLies
import Derived.Maps.AppendAt
import Derived.OwnWalk
import Derived.Laws.BytesArg
import Derived.Laws.MakeOwn
import Derived.Laws.OwnMore
import Derived.Deep.OwnRows
import Derived.Tactics
import Derived.Lib.ConvBytes
import Derived.Laws.Slices
import Derived.WalkKit
import Derived.KernelRfl
import Derived.RowKit3
import Derived.Deep.LoopGhost
import Derived.Deep.QuietTactic
import Derived.BigQuiet
import Derived.WideLaws
import Derived.Deep.DeepCutAuto
import Derived.Deep.CutBlock
import Derived.Deep.RegionHeld3
import Derived.Laws.Rows
import Derived.Lib.AppendStr
import Derived.ArgAppend
import Derived.Laws.IdiomCopy
import Derived.RowKit
import Derived.OrdersHeld
import Derived.Laws.BitsLemmas
import Derived.Deep.RegionLawGrows
import Derived.Lib.SliceRun
import Derived.Test.YtefhljhpcpajgaaProg
import Derived.Laws.StructEq
import Derived.Test.YtefhljhpcpajgaaZOrderMakes0
set_option maxHeartbeats 8000000
set_option maxRecDepth 100000
set_option linter.unusedVariables false
set_option linter.unusedSimpArgs false
namespace Go.Proofs.YtefhljhpcpajgaaX
open Go.RowKit Go.Proofs.YtefhljhpcpajgaaW.PrintWords Go.Proofs.YtefhljhpcpajgaaW.PrintLast Go.Proofs.YtefhljhpcpajgaaW.PrintMore
theorem R_empty_lit {α:Type} (d:Kd α) (e:Nat) (w:World):d.R e (w.alloc (.cells #[] e)) w.heap.size (fun _=>True) (.slice (some ⟨w.heap.size,0,none⟩) 0 0) [] :=by
  have ho:=World.ownsRow_lit (base:=w.heap.size) (e:=e) (size:=d.sz) w #[] 0 (Nat.le_refl _) (by decide) (by simp)
  exact⟨fun _ _=>trivial,[],by simpa using ho,Reps.none _ _⟩
theorem x_less_cons (a b:UInt8) (x y:List UInt8):Op.bytesLess (a::x) (b::y)=true↔a.toNat < b.toNat∨(a=b∧Op.bytesLess x y=true):=by
  simp only[Op.bytesLess,Bool.or_eq_true,Bool.and_eq_true,decide_eq_true_eq,beq_iff_eq,UInt8.lt_iff_toNat_lt]
theorem x_less_or: ∀ (a b:List UInt8),(Op.bytesLess a b||a==b)=!(Op.bytesLess b a)
  | [],[] =>rfl
  | [],_::_=>rfl
  |_::_,[] =>by simp[Op.bytesLess]
  |a::x,b::y=>by
    have ih:=x_less_or x y
    rw[Bool.eq_iff_iff] at ih⊢
    rw[Bool.or_eq_true,Bool.not_eq_true',beq_iff_eq] at ih⊢
    rw[x_less_cons,←Bool.not_eq_true,x_less_cons]
    rw[←Bool.not_eq_true] at ih
    constructor
    · rintro((h|⟨rfl,h⟩)|h)
      · rintro(g|⟨g,_⟩)
        · omega
        subst g;omega
      · rintro(g|⟨_,g⟩)
        · omega
        exact ih.1 (.inl h) g
      injection h with h1 h2
      subst h1
      rintro(g|⟨_,g⟩)
      · omega
      exact ih.1 (.inr h2) g
    intro h
    by_cases h1:a.toNat < b.toNat
    · exact .inl (.inl h1)
    have h2:a=b:=by
      apply UInt8.toNat_inj.1
      have: ¬ b.toNat < a.toNat:=fun g=>h (.inl g)
      omega
    subst h2
    rcases ih.2 (fun g=>h (.inr ⟨rfl,g⟩))with g|g
    · exact .inl (.inr ⟨rfl,g⟩)
    exact .inr (by rw[g])
theorem str_geq (t:TypeId) (a b:ByteArray):binOp .geq t (.string a) (.string b)=pure (.bool !(Op.bytesLess a.toList b.toList)):=by simp[binOp,Op.stringOp]
theorem str_leq (t:TypeId) (a b:ByteArray):binOp .leq t (.string a) (.string b)=pure (.bool !(Op.bytesLess b.toList a.toList)):=by
  rw[←x_less_or];simp[binOp,Op.stringOp]
theorem str_gtr (t:TypeId) (a b:ByteArray):binOp .gtr t (.string a) (.string b)=pure (.bool (Op.bytesLess b.toList a.toList)):=by
  have h:=x_less_or a.toList b.toList
  have h2:(!(Op.bytesLess a.toList b.toList||a.toList==b.toList))=Op.bytesLess b.toList a.toList:=by rw[h];simp
  rw[←h2];simp[binOp,Op.stringOp]
end Go.Proofs.YtefhljhpcpajgaaX
namespace Go.Proofs.Ytefhljhpcpajgaa.F
open Go.RowKit Go.Proofs.YtefhljhpcpajgaaX Go.Proofs.YtefhljhpcpajgaaW.PrintWords Go.Proofs.YtefhljhpcpajgaaW.PrintLast Go.Proofs.YtefhljhpcpajgaaW.PrintMore
attribute [local go_sem] max2_int min2_int max_two min_two max_three min_three max_four min_four
attribute [local go_sem high] str_geq str_leq str_gtr
set_option linter.unusedVariables false
set_option linter.unusedSimpArgs false
def errW:Option (Int × Int)→Value
  |none=> .nilIface
  |some c=> .iface 0 (.agg #[.int .i64 c.1,.int .i64 c.2])
theorem errW_none:errW none= .nilIface:=rfl
theorem errW_some (c:Int × Int):errW (some c)= .iface 0 (.agg #[.int .i64 c.1,.int .i64 c.2]):=rfl
theorem info3:(Try.prog.info? 3).map (fun i=> (i.zero,i.size,i.bytes))=some (some (.int .i64 0),1,8):=by kernel_rfl
theorem info5:(Try.prog.info? 5).map (fun i=> (i.zero,i.size,i.bytes))=some (some (.int .u8 0),1,1):=by kernel_rfl
theorem info9:(Try.prog.info? 9).map (fun i=> (i.zero,i.size,i.bytes))=some (some (.string ⟨#[]⟩),1,16):=by kernel_rfl
theorem info71:(Try.prog.info? 71).map (fun i=> (i.zero,i.size,i.bytes))=some (some (.agg #[(.int .i64 0),(.int .i64 0),(.int .i64 0),(.int .i64 0),(.slice none 0 0)]),5,56):=by kernel_rfl
structure S71 where
  f0:Int
  f1:Int
  f2:Int
  f3:Int
  f4:(List ByteArray)
def z71:S71:=⟨(0:Int),(0:Int),(0:Int),(0:Int),([] :List ByteArray)⟩
def k71:Kd S71:=Kd.iso (Kd.pair (Kd.int .i64) (Kd.pair (Kd.int .i64) (Kd.pair (Kd.int .i64) (Kd.pair (Kd.int .i64) (Kd.slice 9 Kd.string))))) (fun x:S71=> (x.f0,x.f1,x.f2,x.f3,x.f4))
theorem k71_heap:Kd.Heap k71:=Kd.heap_iso _ (Kd.heap_pair (Kd.heap_int .i64) (Kd.heap_pair (Kd.heap_int .i64) (Kd.heap_pair (Kd.heap_int .i64) (Kd.heap_pair (Kd.heap_int .i64) (Kd.heap_slice 9 Kd.heap_string)))))
theorem k71_open {w:World} {x:S71} {cs:List Value} (h:k71.K w x cs): ∃ A4 c4,cs=[.int .i64 x.f0,.int .i64 x.f1,.int .i64 x.f2,.int .i64 x.f3,.slice A4 x.f4.length c4]∧x.f4.length≤c4∧Kd.string.C w A4 x.f4.length x.f4:=by
  obtain⟨_,_,rfl,rfl,⟨_,_,rfl,rfl,⟨_,_,rfl,rfl,⟨_,_,rfl,rfl,⟨A4,c4,rfl,l4,g4⟩⟩⟩⟩⟩:=h
  exact⟨A4,c4,rfl,l4,g4⟩
theorem k71_mk (w:World) (x:S71) {A4:Option Addr} {c4:Nat} (l4:x.f4.length≤c4) (g4:Kd.string.C w A4 x.f4.length x.f4):k71.K w x [.int .i64 x.f0,.int .i64 x.f1,.int .i64 x.f2,.int .i64 x.f3,.slice A4 x.f4.length c4] :=⟨[.int .i64 x.f0],[.int .i64 x.f1,.int .i64 x.f2,.int .i64 x.f3,.slice A4 x.f4.length c4],rfl,rfl,⟨[.int .i64 x.f1],[.int .i64 x.f2,.int .i64 x.f3,.slice A4 x.f4.length c4],rfl,rfl,⟨[.int .i64 x.f2],[.int .i64 x.f3,.slice A4 x.f4.length c4],rfl,rfl,⟨[.int .i64 x.f3],[.slice A4 x.f4.length c4],rfl,rfl,⟨A4,c4,rfl,l4,g4⟩⟩⟩⟩⟩
theorem k71_openF {W:World} {ok:Nat→Prop} {x:S71} {cs:List Value} (h:Kd.FK k71 W ok x cs): ∃ A4 c4,cs=[.int .i64 x.f0,.int .i64 x.f1,.int .i64 x.f2,.int .i64 x.f3,.slice A4 x.f4.length c4]∧x.f4.length≤c4∧Kd.F Kd.string W ok A4 x.f4.length x.f4:=by
  obtain⟨A4,c4,rfl,l4,_⟩:=k71_open (Kd.FK_now h)
  exact⟨A4,c4,rfl,l4,(fun W' hW=>by obtain⟨A4_,c4_,he,l4_,g4_⟩:=k71_open (h W' hW);injection (Option.some.inj (show some (Value.slice A4 x.f4.length c4)=some (Value.slice A4_ x.f4.length c4_)from congrArg (fun l=>l[4]?) he))with ha_ _ _;rw[ha_];exact g4_)⟩
theorem k71_mkF (W:World) (ok:Nat→Prop) (x:S71) {A4:Option Addr} {c4:Nat} (l4:x.f4.length≤c4) (g4:Kd.F Kd.string W ok A4 x.f4.length x.f4):Kd.FK k71 W ok x [.int .i64 x.f0,.int .i64 x.f1,.int .i64 x.f2,.int .i64 x.f3,.slice A4 x.f4.length c4] :=fun W2 hW=>k71_mk W2 x l4 (g4 W2 hW)
def rd_T71 (xs:List S71) (i:Int):S71:=xs.getD i.toNat z71
theorem at_T71 {w:World} {A:Option Addr} {n:Nat} {xs:List S71} (h:Kd.C k71 w A n xs) (i:Int) (h0:0≤i) (h1:i < n): ∃ ad A4 c4,A=some ad∧w.cell? (ad.add (i.toNat * 5))=some (.int .i64 (rd_T71 xs i).f0)∧w.cell? ⟨(ad.add (i.toNat * 5)).block,(ad.add (i.toNat * 5)).off+1,none⟩=some (.int .i64 (rd_T71 xs i).f1)∧w.cell? ⟨(ad.add (i.toNat * 5)).block,(ad.add (i.toNat * 5)).off+2,none⟩=some (.int .i64 (rd_T71 xs i).f2)∧w.cell? ⟨(ad.add (i.toNat * 5)).block,(ad.add (i.toNat * 5)).off+3,none⟩=some (.int .i64 (rd_T71 xs i).f3)∧w.cell? ⟨(ad.add (i.toNat * 5)).block,(ad.add (i.toNat * 5)).off+4,none⟩=some (.slice A4 (rd_T71 xs i).f4.length c4)∧(rd_T71 xs i).f4.length≤c4∧Kd.string.C w A4 (rd_T71 xs i).f4.length (rd_T71 xs i).f4:=by
  obtain⟨ad,c,e,_,hK,hc0⟩:=Kd.C_get h z71 i h0 h1
  have hc: ∀ j u,c[j]? =some u→w.cell? (ad.add (i.toNat * 5+j))=some u:=hc0
  obtain⟨A4,c4,rfl,l4,g4⟩:=k71_open hK
  exact⟨ad,A4,c4,e,hc 0 _ rfl,by rw[←add_field _ _ 1 (by omega)];exact hc 1 _ rfl,by rw[←add_field _ _ 2 (by omega)];exact hc 2 _ rfl,by rw[←add_field _ _ 3 (by omega)];exact hc 3 _ rfl,by rw[←add_field _ _ 4 (by omega)];exact hc 4 _ rfl,l4,g4⟩
structure S97 where
  f0:Int
  f1:Int
  f2:Int
  f3:Int
def k97:Kd S97:=Kd.iso (Kd.pair (Kd.int .i64) (Kd.pair (Kd.int .i64) (Kd.pair (Kd.int .i64) (Kd.int .i64)))) (fun x:S97=> (x.f0,x.f1,x.f2,x.f3))
theorem k97_open {w:World} {x:S97} {cs:List Value} (h:k97.K w x cs):cs=[.int .i64 x.f0,.int .i64 x.f1,.int .i64 x.f2,.int .i64 x.f3] :=by
  obtain⟨_,_,rfl,rfl,⟨_,_,rfl,rfl,⟨_,_,rfl,rfl,rfl⟩⟩⟩:=h
  exact rfl
theorem qA {P:Prop} (h:P:=by first|(with_reducible assumption)|assumption):P:=h
theorem qB {P:Prop} (h:P:=by repeat(first|(with_reducible first|exact HB.out|apply below_alloc|apply pw_below_drewN|apply below_drew1|refine below_set ?_ (Aside0.out (by assumption)))|exact HB.out)):P:=h
theorem qC {Q P:Prop} (hq:Q) (h:Q→P:=by intro h_;repeat(first|exact h_|(with_reducible refine Kd.C_alloc ?_ _)|(with_reducible refine Kd.C_drewN ?_ _)|(with_reducible refine Kd.C_drew ?_))):P:=h hq
theorem qE {P:Prop} (h:P:=by first|rfl|(simp[errW_none,errW_some] <;> rfl)|(simp[*,errW_none,errW_some] <;> rfl)):P:=h
theorem qG {P:Prop} (h:P:=by(try simp only[List.map_toArray,List.map_cons,List.map_nil]);first|done|rfl|(simp only[List.length_drop,List.length_take];rfl)):P:=h
theorem qN {P:Prop} (h:P:=by first|exact Kd.R_nil _ _ _ _ _|exact Kd.N_nil _ _ _ _ _|exact Kd.V_nil _ _ _ _ _|exact Kd.Q_nil _ _ _ _ _|exact Kd.S_nil _ _ _ _ _):P:=h
theorem qP2 {w:World} {g:Nat} {t:TypeId} {v0 v1 u0 u1:Value} (h:w.heap[g]? =some (.cells #[v0,v1] t (0,0))):((w.setCell ⟨g,0,none⟩ u0).setCell ⟨g,1,none⟩ u1).heap[g]? =some (.cells #[u0,u1] t (0,0)):=by refine blk_put (cs:= #[u0,v1]) ?_ 1 _ rfl;refine blk_put (cs:= #[v0,v1]) ?_ 0 _ rfl;exact h
theorem qP3 {w:World} {g:Nat} {t:TypeId} {v0 v1 v2 u0 u1 u2:Value} (h:w.heap[g]? =some (.cells #[v0,v1,v2] t (0,0))):(((w.setCell ⟨g,0,none⟩ u0).setCell ⟨g,1,none⟩ u1).setCell ⟨g,2,none⟩ u2).heap[g]? =some (.cells #[u0,u1,u2] t (0,0)):=by refine blk_put (cs:= #[u0,u1,v2]) ?_ 2 _ rfl;refine blk_put (cs:= #[u0,v1,v2]) ?_ 1 _ rfl;refine blk_put (cs:= #[v0,v1,v2]) ?_ 0 _ rfl;exact h
theorem qP5 {w:World} {g:Nat} {t:TypeId} {v0 v1 v2 v3 v4 u0 u1 u2 u3 u4:Value} (h:w.heap[g]? =some (.cells #[v0,v1,v2,v3,v4] t (0,0))):(((((w.setCell ⟨g,0,none⟩ u0).setCell ⟨g,1,none⟩ u1).setCell ⟨g,2,none⟩ u2).setCell ⟨g,3,none⟩ u3).setCell ⟨g,4,none⟩ u4).heap[g]? =some (.cells #[u0,u1,u2,u3,u4] t (0,0)):=by refine blk_put (cs:= #[u0,u1,u2,u3,v4]) ?_ 4 _ rfl;refine blk_put (cs:= #[u0,u1,u2,v3,v4]) ?_ 3 _ rfl;refine blk_put (cs:= #[u0,u1,v2,v3,v4]) ?_ 2 _ rfl;refine blk_put (cs:= #[u0,v1,v2,v3,v4]) ?_ 1 _ rfl;refine blk_put (cs:= #[v0,v1,v2,v3,v4]) ?_ 0 _ rfl;exact h
theorem qS {P:Prop} (h:P:=by rw[hg];exact(below_size (by repeat(first|(with_reducible first|exact HB.out|apply below_alloc|apply pw_below_drewN|apply below_drew1|refine below_set ?_ (Aside0.out (by assumption)))|exact HB.out)))):P:=h
theorem qc2f {w:World} {g:Nat} {t:TypeId} {v0 v1:Value} (h:w.heap[g]? =some (.cells #[v0,v1] t (0,0))):w.cell? ⟨g,0,none⟩=some v0∧w.cell? ⟨g,1,none⟩=some v1∧w.frozen? ⟨g,0,none⟩=false∧w.frozen? ⟨g,1,none⟩=false:=⟨(blk_cell h 0).trans rfl,(blk_cell h 1).trans rfl,blk_frozen h 0,blk_frozen h 1⟩
theorem qc3f {w:World} {g:Nat} {t:TypeId} {v0 v1 v2:Value} (h:w.heap[g]? =some (.cells #[v0,v1,v2] t (0,0))):w.cell? ⟨g,0,none⟩=some v0∧w.cell? ⟨g,1,none⟩=some v1∧w.cell? ⟨g,2,none⟩=some v2∧w.frozen? ⟨g,0,none⟩=false∧w.frozen? ⟨g,1,none⟩=false∧w.frozen? ⟨g,2,none⟩=false:=⟨(blk_cell h 0).trans rfl,(blk_cell h 1).trans rfl,(blk_cell h 2).trans rfl,blk_frozen h 0,blk_frozen h 1,blk_frozen h 2⟩
theorem qc4f {w:World} {g:Nat} {t:TypeId} {v0 v1 v2 v3:Value} (h:w.heap[g]? =some (.cells #[v0,v1,v2,v3] t (0,0))):w.cell? ⟨g,0,none⟩=some v0∧w.cell? ⟨g,1,none⟩=some v1∧w.cell? ⟨g,2,none⟩=some v2∧w.cell? ⟨g,3,none⟩=some v3∧w.frozen? ⟨g,0,none⟩=false∧w.frozen? ⟨g,1,none⟩=false∧w.frozen? ⟨g,2,none⟩=false∧w.frozen? ⟨g,3,none⟩=false:=⟨(blk_cell h 0).trans rfl,(blk_cell h 1).trans rfl,(blk_cell h 2).trans rfl,(blk_cell h 3).trans rfl,blk_frozen h 0,blk_frozen h 1,blk_frozen h 2,blk_frozen h 3⟩
theorem qc5f {w:World} {g:Nat} {t:TypeId} {v0 v1 v2 v3 v4:Value} (h:w.heap[g]? =some (.cells #[v0,v1,v2,v3,v4] t (0,0))):w.cell? ⟨g,0,none⟩=some v0∧w.cell? ⟨g,1,none⟩=some v1∧w.cell? ⟨g,2,none⟩=some v2∧w.cell? ⟨g,3,none⟩=some v3∧w.cell? ⟨g,4,none⟩=some v4∧w.frozen? ⟨g,0,none⟩=false∧w.frozen? ⟨g,1,none⟩=false∧w.frozen? ⟨g,2,none⟩=false∧w.frozen? ⟨g,3,none⟩=false∧w.frozen? ⟨g,4,none⟩=false:=⟨(blk_cell h 0).trans rfl,(blk_cell h 1).trans rfl,(blk_cell h 2).trans rfl,(blk_cell h 3).trans rfl,(blk_cell h 4).trans rfl,blk_frozen h 0,blk_frozen h 1,blk_frozen h 2,blk_frozen h 3,blk_frozen h 4⟩
theorem qg {P:Prop} (h:P:=by first|(go_simp;done)|(go_simp;rfl)):P:=h
theorem qr {P:Prop} (h:P:=by rfl):P:=h
theorem qy {P:Prop} (h:P:=by intro w';go_simp;with_reducible rfl):P:=h
theorem qz {P:Prop} (h:P:=by simp only[Act.put,List.setIfInBounds_toArray,List.set_cons_zero,List.set_cons_succ,i64_w,i32_w];rfl):P:=h
theorem qL {W0 W:World} {g:Nat} {o:Obj} (h0:W0.heap[g]? =some o) (h:W0.heap[g]? =some o→W.heap[g]? =some o:=by intro h_;(with_reducible repeat(first|refine blk_drewN ?_ _|refine blk_drew ?_|refine blk_alloc ?_ _|apply qP2|apply qP3|apply qP5|refine blk_far ?_ (Aside0.out (by assumption)) _));exact h_):g < W.heap.size:=blk_lt (h h0)
theorem qV {Q P:Prop} (hq:Q) (h:Q→P:=by intro h_;(with_reducible repeat(first|refine blk_drewN ?_ _|refine blk_drew ?_|refine blk_alloc ?_ _|apply qP2|apply qP3|apply qP5|refine blk_far ?_ (Aside0.out (by assumption)) _));exact h_):P:=h hq
theorem qW {Q P:Prop} (hq:Q) (h:Q→P:=by intro h_;(with_reducible repeat(first|refine blk_drewN ?_ _|refine blk_drew ?_|refine blk_alloc ?_ _|apply qP2|apply qP3|apply qP5|refine blk_far ?_ (Aside0.out (by assumption)) _));exact h_):P:=h hq
theorem qX {W0 W w1:World} {g:Nat} {o:Obj} (h0:W0.heap[g]? =some o) (hb:Below W.heap.size W w1) (h:W0.heap[g]? =some o→W.heap[g]? =some o:=by intro h_;(with_reducible repeat(first|refine blk_drewN ?_ _|refine blk_drew ?_|refine blk_alloc ?_ _|apply qP2|apply qP3|apply qP5|refine blk_far ?_ (Aside0.out (by assumption)) _));exact h_):w1.heap[g]? =some o:=blk_below (h h0) hb
abbrev I:Bool:=true
abbrev Z:Bool:=false
theorem qF_ {P:Prop} (h:P:=by first|rfl|(simp;done)|(simp[*];done)):P:=h
theorem qU_ {W0 W:World} {p:Addr} {v:Value} (h:W0.cell? p=some v) (hb:Below W0.heap.size W0 W:=by exact HB.out):W.cell? p=some v:=(hb.cell (World.block_lt_of_cell? W0 _ h)).trans h
theorem qD_ {α β:Type} {o:Option α} {f:α→Option β} {r:β} (h:o.bind f=some r): ∃ t,Aside0 (o=some t)∧f t=some r:=by obtain⟨t,a,b⟩:=Option.bind_eq_some_iff.mp h;exact⟨t,Aside0.mk a,b⟩
theorem qO_ {p:Prop} [Decidable p] (h:decide p=true:=by first|(with_reducible assumption)|assumption):p:=of_decide_eq_true h
theorem qR_ {Q P:Prop} (hq:Q) (h:Q→P:=by intro h_;(with_reducible repeat(first|apply Kd.R_alloc|apply Kd.R_drewN|apply Kd.R_drew));exact h_):P:=h hq
theorem qN_ {Q P:Prop} (hq:Q) (h:Q→P:=by intro h_;(with_reducible repeat(first|apply Kd.N_alloc|apply Kd.N_drewN|apply Kd.N_drew));exact h_):P:=h hq
theorem qV_ {Q P:Prop} (hq:Q) (h:Q→P:=by intro h_;(with_reducible repeat(first|apply Kd.V_alloc|apply Kd.V_drewN|apply Kd.V_drew));exact h_):P:=h hq
abbrev zA:= @Aside0.mk
abbrev zB:= @pw_below_drewN
abbrev zC:= @below_drew1
abbrev zD:= @below_alloc
abbrev zE:= @below_set
abbrev zF:= @blk_cell
abbrev zG:= @blk_frozen
abbrev zH:= @List.setIfInBounds_toArray
abbrev zI:= @List.set_cons_zero
abbrev zJ:= @List.set_cons_succ
abbrev zP:= @List.length_drop
abbrev zQ:= @List.length_take
abbrev zR:= @List.map_toArray
abbrev zS:= @List.map_cons
abbrev zT:= @List.map_nil
abbrev zV:= @below_step
abbrev zW:= @below_size
abbrev zX:= @blk_below
abbrev zY:= @blk_drewN
abbrev zZ:= @blk_alloc
abbrev zAq:= @blk_drew
abbrev zCq:= @World.block_lt_of_cell?
abbrev zFq:= @decide_eq_true
abbrev zGq:= @decide_eq_false
abbrev zJq:= @gate_callee
abbrev zKq:= @Option.some.inj
abbrev zLq:= @Nat.ne_of_lt
abbrev zMq:= @Nat.ne_of_gt
abbrev zNq:= @Option.some.injEq
abbrev zOq:= @Prod.mk.injEq
def bW.j0:Nat→Int→Int→Option (Int)
  |0,_,_=>none
  |k+1,x0,x2=>if x0≥65536 then(if(x0 / 65536)≥256 then(if 0≤(((x0 / 65536) / 256) % 256)then(if(((x0 / 65536) / 256) % 256) < 256 then(some (wrap64 ((wrap64 ((wrap64 (x2+16))+8))+(wrap64 (bt (⟨#[0,1,2,2,3,3,3,3,4,4,4,4,4,4,4,4,5,5,5,5,5,5,5,5,5,5,5,5,5,5,5,5,6,6,6,6,6,6,6,6,6,6,6,6,6,6,6,6,6,6,6,6,6,6,6,6,6,6,6,6,6,6,6,6,7,7,7,7,7,7,7,7,7,7,7,7,7,7,7,7,7,7,7,7,7,7,7,7,7,7,7,7,7,7,7,7,7,7,7,7,7,7,7,7,7,7,7,7,7,7,7,7,7,7,7,7,7,7,7,7,7,7,7,7,7,7,7,7,8,8,8,8,8,8,8,8,8,8,8,8,8,8,8,8,8,8,8,8,8,8,8,8,8,8,8,8,8,8,8,8,8,8,8,8,8,8,8,8,8,8,8,8,8,8,8,8,8,8,8,8,8,8,8,8,8,8,8,8,8,8,8,8,8,8,8,8,8,8,8,8,8,8,8,8,8,8,8,8,8,8,8,8,8,8,8,8,8,8,8,8,8,8,8,8,8,8,8,8,8,8,8,8,8,8,8,8,8,8,8,8,8,8,8,8,8,8,8,8,8,8,8,8,8,8,8,8]⟩:ByteArray) (((x0 / 65536) / 256) % 256))))))else(none))else(none))else(if 0≤((x0 / 65536) % 256)then(if((x0 / 65536) % 256) < 256 then(some (wrap64 ((wrap64 (x2+16))+(wrap64 (bt (⟨#[0,1,2,2,3,3,3,3,4,4,4,4,4,4,4,4,5,5,5,5,5,5,5,5,5,5,5,5,5,5,5,5,6,6,6,6,6,6,6,6,6,6,6,6,6,6,6,6,6,6,6,6,6,6,6,6,6,6,6,6,6,6,6,6,7,7,7,7,7,7,7,7,7,7,7,7,7,7,7,7,7,7,7,7,7,7,7,7,7,7,7,7,7,7,7,7,7,7,7,7,7,7,7,7,7,7,7,7,7,7,7,7,7,7,7,7,7,7,7,7,7,7,7,7,7,7,7,7,8,8,8,8,8,8,8,8,8,8,8,8,8,8,8,8,8,8,8,8,8,8,8,8,8,8,8,8,8,8,8,8,8,8,8,8,8,8,8,8,8,8,8,8,8,8,8,8,8,8,8,8,8,8,8,8,8,8,8,8,8,8,8,8,8,8,8,8,8,8,8,8,8,8,8,8,8,8,8,8,8,8,8,8,8,8,8,8,8,8,8,8,8,8,8,8,8,8,8,8,8,8,8,8,8,8,8,8,8,8,8,8,8,8,8,8,8,8,8,8,8,8,8,8,8,8,8,8]⟩:ByteArray) ((x0 / 65536) % 256))))))else(none))else(none)))else(if x0≥256 then(if 0≤((x0 / 256) % 256)then(if((x0 / 256) % 256) < 256 then(some (wrap64 ((wrap64 (x2+8))+(wrap64 (bt (⟨#[0,1,2,2,3,3,3,3,4,4,4,4,4,4,4,4,5,5,5,5,5,5,5,5,5,5,5,5,5,5,5,5,6,6,6,6,6,6,6,6,6,6,6,6,6,6,6,6,6,6,6,6,6,6,6,6,6,6,6,6,6,6,6,6,7,7,7,7,7,7,7,7,7,7,7,7,7,7,7,7,7,7,7,7,7,7,7,7,7,7,7,7,7,7,7,7,7,7,7,7,7,7,7,7,7,7,7,7,7,7,7,7,7,7,7,7,7,7,7,7,7,7,7,7,7,7,7,7,8,8,8,8,8,8,8,8,8,8,8,8,8,8,8,8,8,8,8,8,8,8,8,8,8,8,8,8,8,8,8,8,8,8,8,8,8,8,8,8,8,8,8,8,8,8,8,8,8,8,8,8,8,8,8,8,8,8,8,8,8,8,8,8,8,8,8,8,8,8,8,8,8,8,8,8,8,8,8,8,8,8,8,8,8,8,8,8,8,8,8,8,8,8,8,8,8,8,8,8,8,8,8,8,8,8,8,8,8,8,8,8,8,8,8,8,8,8,8,8,8,8,8,8,8,8,8,8]⟩:ByteArray) ((x0 / 256) % 256))))))else(none))else(none))else(if 0≤((x0) % 256)then(if((x0) % 256) < 256 then(some (wrap64 (x2+(wrap64 (bt (⟨#[0,1,2,2,3,3,3,3,4,4,4,4,4,4,4,4,5,5,5,5,5,5,5,5,5,5,5,5,5,5,5,5,6,6,6,6,6,6,6,6,6,6,6,6,6,6,6,6,6,6,6,6,6,6,6,6,6,6,6,6,6,6,6,6,7,7,7,7,7,7,7,7,7,7,7,7,7,7,7,7,7,7,7,7,7,7,7,7,7,7,7,7,7,7,7,7,7,7,7,7,7,7,7,7,7,7,7,7,7,7,7,7,7,7,7,7,7,7,7,7,7,7,7,7,7,7,7,7,8,8,8,8,8,8,8,8,8,8,8,8,8,8,8,8,8,8,8,8,8,8,8,8,8,8,8,8,8,8,8,8,8,8,8,8,8,8,8,8,8,8,8,8,8,8,8,8,8,8,8,8,8,8,8,8,8,8,8,8,8,8,8,8,8,8,8,8,8,8,8,8,8,8,8,8,8,8,8,8,8,8,8,8,8,8,8,8,8,8,8,8,8,8,8,8,8,8,8,8,8,8,8,8,8,8,8,8,8,8,8,8,8,8,8,8,8,8,8,8,8,8,8,8,8,8,8,8]⟩:ByteArray) ((x0) % 256))))))else(none))else(none)))
def bW.f (k:Nat) (a0:Int):Option (Int):=if a0≥4294967296 then(bW.j0 k (a0 / 4294967296) 32)else(bW.j0 k a0 0)
theorem bW.mono_l: ∀ k,(∀ y0 y1,LeO (bW.j0 k y0 y1) (bW.j0 (k+1) y0 y1))
  |0=>fun _ _ r h=>by simp[bW.j0] at h
  |k+1=>by
    have ih0:=bW.mono_l k
    · intro y0 y1
      unfold bW.j0
      repeat' first
      |(with_reducible exact ih0 _ _)
      |(with_reducible exact LeO.refl _)
      |(with_reducible exact LeO.none _)
      |(with_reducible refine LeO.ite ?_ ?_)
      |(with_reducible refine LeO.bind ?_ (fun _=>?_))
      |exact ih0 _ _
      |exact LeO.none _
      |refine LeO.ite ?_ ?_
      |refine LeO.bind ?_ (fun _=>?_)
theorem bW.mono: ∀ a0 k,LeO (bW.f k a0) (bW.f (k+1) a0):=by
  intro a0 k
  have ih0:=bW.mono_l k
  unfold bW.f
  repeat' first
      |(with_reducible exact ih0 _ _)
      |(with_reducible exact LeO.refl _)
      |(with_reducible exact LeO.none _)
      |(with_reducible refine LeO.ite ?_ ?_)
      |(with_reducible refine LeO.bind ?_ (fun _=>?_))
      |exact ih0 _ _
      |exact LeO.none _
      |refine LeO.ite ?_ ?_
      |refine LeO.bind ?_ (fun _=>?_)
theorem bW.calls (k:Nat) (a0:Int) (r:Int) (w:World) (h:bW.f k a0=some r):
  Calls Try.prog 154 #[.int .u64 a0] w fun e w'=>e= .returned (.int .i64 r)∧Drawn0 w w':=by
 have H:(if a0≥4294967296 then(bW.j0 k (a0 / 4294967296) 32)else(bW.j0 k a0 0))=some r:=h
 clear h
 have HC2:=Aside0.mk H
 clear H
 go_enter Try.func154,Try.ntmps154
 go_upto_if 4 with(fail)
 go_cut[0,2] (fun v0 v2 wc=> ∃ (kq:Nat) (x0_1:Int) (x2_1:Int),v0= .int .u64 x0_1∧v2= .int .i64 x2_1∧Aside0 (bW.j0 kq x0_1 x2_1=some r)∧Aside0 (kq≤k)∧Drawn0 w wc)
 case first=>
  have H:=HC2.out
  clear HC2
  by_cases c3:a0≥4294967296
  ·rw[if_pos c3] at H
   have c3b0:decide (4294967296≤a0)=true:=decide_eq_true c3
   clear c3
   (first|rw[c3b0] |(simp only[i64_w,i32_w];rw[c3b0])|skip)
   have H':=Aside0.mk H
   clear H
   go_wp2
   go_meet
   case rel=>exact⟨_,(a0 / 4294967296),(32),qF_,qF_,H',⟨by first|omega|exact Nat.le_refl _⟩,by repeat(first|exact Drawn0.refl _|apply Drawn0.step)⟩
  ·rw[if_neg c3] at H
   have c3b0:decide (4294967296≤a0)=false:=decide_eq_false c3
   clear c3
   (first|rw[c3b0] |(simp only[i64_w,i32_w];rw[c3b0])|skip)
   have H':=Aside0.mk H
   clear H
   go_wp2
   go_meet
   case rel=>exact⟨_,(a0),(0),qF_,qF_,H',⟨by first|omega|exact Nat.le_refl _⟩,by repeat(first|exact Drawn0.refl _|apply Drawn0.step)⟩
 case rest=>
  clear HC2
  try clear c1
  try clear p2
  try clear c3
  try clear c3b0
  obtain⟨kq,x0_1,x2_1,rfl,rfl,HA,HJ1,⟨mc1,rfl⟩⟩:=hcut
  cases kq with
  |zero=>exact absurd HA.out (by simp[bW.j0])
  |succ kj1=>
   have H:=HA.out
   clear HA
   simp only[bW.j0] at H
   by_cases c4:x0_1≥65536
   ·rw[if_pos c4] at H
    have c4b0:decide (65536≤x0_1)=true:=decide_eq_true c4
    clear c4
    by_cases c5:(x0_1 / 65536)≥256
    ·rw[if_pos c5] at H
     have c5b0:decide (256≤(x0_1 / 65536))=true:=decide_eq_true c5
     clear c5
     obtain⟨ji6,hji6⟩: ∃ j_:Int,(((x0_1 / 65536) / 256) % 256)=j_:=⟨_,rfl⟩
     replace H:(if 0≤(ji6)then(if(ji6) < 256 then(some (wrap64 ((wrap64 ((wrap64 (x2_1+16))+8))+(wrap64 (bt (⟨#[0,1,2,2,3,3,3,3,4,4,4,4,4,4,4,4,5,5,5,5,5,5,5,5,5,5,5,5,5,5,5,5,6,6,6,6,6,6,6,6,6,6,6,6,6,6,6,6,6,6,6,6,6,6,6,6,6,6,6,6,6,6,6,6,7,7,7,7,7,7,7,7,7,7,7,7,7,7,7,7,7,7,7,7,7,7,7,7,7,7,7,7,7,7,7,7,7,7,7,7,7,7,7,7,7,7,7,7,7,7,7,7,7,7,7,7,7,7,7,7,7,7,7,7,7,7,7,7,8,8,8,8,8,8,8,8,8,8,8,8,8,8,8,8,8,8,8,8,8,8,8,8,8,8,8,8,8,8,8,8,8,8,8,8,8,8,8,8,8,8,8,8,8,8,8,8,8,8,8,8,8,8,8,8,8,8,8,8,8,8,8,8,8,8,8,8,8,8,8,8,8,8,8,8,8,8,8,8,8,8,8,8,8,8,8,8,8,8,8,8,8,8,8,8,8,8,8,8,8,8,8,8,8,8,8,8,8,8,8,8,8,8,8,8,8,8,8,8,8,8,8,8,8,8,8,8]⟩:ByteArray) (ji6))))))else(none))else(none))=some r:=by first|(rw[hji6] at H;exact H)|(simp only[hji6] at H⊢;exact H)
     by_cases c7:0≤(ji6)
     ·rw[if_pos c7] at H
      have c7b0:decide (0≤(ji6))=true:=decide_eq_true c7
      clear c7
      by_cases c8:(ji6) < 256
      ·rw[if_pos c8] at H
       have c8b0:decide ((ji6) < 256)=true:=decide_eq_true c8
       clear c8
       obtain rfl:=Option.some.inj H
       have p9:0≤((ji6):Int):=of_decide_eq_true (by first|(with_reducible assumption)|assumption)
       have q9:(ji6) < (256:Int):=of_decide_eq_true (by first|(with_reducible assumption)|assumption)
       have hx9:=bt_at (⟨#[0,1,2,2,3,3,3,3,4,4,4,4,4,4,4,4,5,5,5,5,5,5,5,5,5,5,5,5,5,5,5,5,6,6,6,6,6,6,6,6,6,6,6,6,6,6,6,6,6,6,6,6,6,6,6,6,6,6,6,6,6,6,6,6,7,7,7,7,7,7,7,7,7,7,7,7,7,7,7,7,7,7,7,7,7,7,7,7,7,7,7,7,7,7,7,7,7,7,7,7,7,7,7,7,7,7,7,7,7,7,7,7,7,7,7,7,7,7,7,7,7,7,7,7,7,7,7,7,8,8,8,8,8,8,8,8,8,8,8,8,8,8,8,8,8,8,8,8,8,8,8,8,8,8,8,8,8,8,8,8,8,8,8,8,8,8,8,8,8,8,8,8,8,8,8,8,8,8,8,8,8,8,8,8,8,8,8,8,8,8,8,8,8,8,8,8,8,8,8,8,8,8,8,8,8,8,8,8,8,8,8,8,8,8,8,8,8,8,8,8,8,8,8,8,8,8,8,8,8,8,8,8,8,8,8,8,8,8,8,8,8,8,8,8,8,8,8,8,8,8,8,8,8,8,8,8]⟩:ByteArray) (ji6)
       replace p9:=eq_true p9
       replace q9:=eq_true q9
       go_wp2
       go_ret
       exact⟨by first|rfl|(simp;done)|(simp only[←hji6] <;> (first|rfl|simp))|(simp[*];done),by repeat(first|exact Drawn0.refl _|apply Drawn0.step)⟩
      ·rw[if_neg c8] at H
       exact absurd H (by simp)
     ·rw[if_neg c7] at H
      exact absurd H (by simp)
    ·rw[if_neg c5] at H
     have c5b0:decide (256≤(x0_1 / 65536))=false:=decide_eq_false c5
     clear c5
     obtain⟨ji10,hji10⟩: ∃ j_:Int,((x0_1 / 65536) % 256)=j_:=⟨_,rfl⟩
     replace H:(if 0≤(ji10)then(if(ji10) < 256 then(some (wrap64 ((wrap64 (x2_1+16))+(wrap64 (bt (⟨#[0,1,2,2,3,3,3,3,4,4,4,4,4,4,4,4,5,5,5,5,5,5,5,5,5,5,5,5,5,5,5,5,6,6,6,6,6,6,6,6,6,6,6,6,6,6,6,6,6,6,6,6,6,6,6,6,6,6,6,6,6,6,6,6,7,7,7,7,7,7,7,7,7,7,7,7,7,7,7,7,7,7,7,7,7,7,7,7,7,7,7,7,7,7,7,7,7,7,7,7,7,7,7,7,7,7,7,7,7,7,7,7,7,7,7,7,7,7,7,7,7,7,7,7,7,7,7,7,8,8,8,8,8,8,8,8,8,8,8,8,8,8,8,8,8,8,8,8,8,8,8,8,8,8,8,8,8,8,8,8,8,8,8,8,8,8,8,8,8,8,8,8,8,8,8,8,8,8,8,8,8,8,8,8,8,8,8,8,8,8,8,8,8,8,8,8,8,8,8,8,8,8,8,8,8,8,8,8,8,8,8,8,8,8,8,8,8,8,8,8,8,8,8,8,8,8,8,8,8,8,8,8,8,8,8,8,8,8,8,8,8,8,8,8,8,8,8,8,8,8,8,8,8,8,8,8]⟩:ByteArray) (ji10))))))else(none))else(none))=some r:=by first|(rw[hji10] at H;exact H)|(simp only[hji10] at H⊢;exact H)
     by_cases c11:0≤(ji10)
     ·rw[if_pos c11] at H
      have c11b0:decide (0≤(ji10))=true:=decide_eq_true c11
      clear c11
      by_cases c12:(ji10) < 256
      ·rw[if_pos c12] at H
       have c12b0:decide ((ji10) < 256)=true:=decide_eq_true c12
       clear c12
       obtain rfl:=Option.some.inj H
       have p13:0≤((ji10):Int):=of_decide_eq_true (by first|(with_reducible assumption)|assumption)
       have q13:(ji10) < (256:Int):=of_decide_eq_true (by first|(with_reducible assumption)|assumption)
       have hx13:=bt_at (⟨#[0,1,2,2,3,3,3,3,4,4,4,4,4,4,4,4,5,5,5,5,5,5,5,5,5,5,5,5,5,5,5,5,6,6,6,6,6,6,6,6,6,6,6,6,6,6,6,6,6,6,6,6,6,6,6,6,6,6,6,6,6,6,6,6,7,7,7,7,7,7,7,7,7,7,7,7,7,7,7,7,7,7,7,7,7,7,7,7,7,7,7,7,7,7,7,7,7,7,7,7,7,7,7,7,7,7,7,7,7,7,7,7,7,7,7,7,7,7,7,7,7,7,7,7,7,7,7,7,8,8,8,8,8,8,8,8,8,8,8,8,8,8,8,8,8,8,8,8,8,8,8,8,8,8,8,8,8,8,8,8,8,8,8,8,8,8,8,8,8,8,8,8,8,8,8,8,8,8,8,8,8,8,8,8,8,8,8,8,8,8,8,8,8,8,8,8,8,8,8,8,8,8,8,8,8,8,8,8,8,8,8,8,8,8,8,8,8,8,8,8,8,8,8,8,8,8,8,8,8,8,8,8,8,8,8,8,8,8,8,8,8,8,8,8,8,8,8,8,8,8,8,8,8,8,8,8]⟩:ByteArray) (ji10)
       replace p13:=eq_true p13
       replace q13:=eq_true q13
       go_wp2
       go_ret
       exact⟨by first|rfl|(simp;done)|(simp only[←hji10] <;> (first|rfl|simp))|(simp[*];done),by repeat(first|exact Drawn0.refl _|apply Drawn0.step)⟩
      ·rw[if_neg c12] at H
       exact absurd H (by simp)
     ·rw[if_neg c11] at H
      exact absurd H (by simp)
   ·rw[if_neg c4] at H
    have c4b0:decide (65536≤x0_1)=false:=decide_eq_false c4
    clear c4
    by_cases c14:x0_1≥256
    ·rw[if_pos c14] at H
     have c14b0:decide (256≤x0_1)=true:=decide_eq_true c14
     clear c14
     obtain⟨ji15,hji15⟩: ∃ j_:Int,((x0_1 / 256) % 256)=j_:=⟨_,rfl⟩
     replace H:(if 0≤(ji15)then(if(ji15) < 256 then(some (wrap64 ((wrap64 (x2_1+8))+(wrap64 (bt (⟨#[0,1,2,2,3,3,3,3,4,4,4,4,4,4,4,4,5,5,5,5,5,5,5,5,5,5,5,5,5,5,5,5,6,6,6,6,6,6,6,6,6,6,6,6,6,6,6,6,6,6,6,6,6,6,6,6,6,6,6,6,6,6,6,6,7,7,7,7,7,7,7,7,7,7,7,7,7,7,7,7,7,7,7,7,7,7,7,7,7,7,7,7,7,7,7,7,7,7,7,7,7,7,7,7,7,7,7,7,7,7,7,7,7,7,7,7,7,7,7,7,7,7,7,7,7,7,7,7,8,8,8,8,8,8,8,8,8,8,8,8,8,8,8,8,8,8,8,8,8,8,8,8,8,8,8,8,8,8,8,8,8,8,8,8,8,8,8,8,8,8,8,8,8,8,8,8,8,8,8,8,8,8,8,8,8,8,8,8,8,8,8,8,8,8,8,8,8,8,8,8,8,8,8,8,8,8,8,8,8,8,8,8,8,8,8,8,8,8,8,8,8,8,8,8,8,8,8,8,8,8,8,8,8,8,8,8,8,8,8,8,8,8,8,8,8,8,8,8,8,8,8,8,8,8,8,8]⟩:ByteArray) (ji15))))))else(none))else(none))=some r:=by first|(rw[hji15] at H;exact H)|(simp only[hji15] at H⊢;exact H)
     by_cases c16:0≤(ji15)
     ·rw[if_pos c16] at H
      have c16b0:decide (0≤(ji15))=true:=decide_eq_true c16
      clear c16
      by_cases c17:(ji15) < 256
      ·rw[if_pos c17] at H
       have c17b0:decide ((ji15) < 256)=true:=decide_eq_true c17
       clear c17
       obtain rfl:=Option.some.inj H
       have p18:0≤((ji15):Int):=of_decide_eq_true (by first|(with_reducible assumption)|assumption)
       have q18:(ji15) < (256:Int):=of_decide_eq_true (by first|(with_reducible assumption)|assumption)
       have hx18:=bt_at (⟨#[0,1,2,2,3,3,3,3,4,4,4,4,4,4,4,4,5,5,5,5,5,5,5,5,5,5,5,5,5,5,5,5,6,6,6,6,6,6,6,6,6,6,6,6,6,6,6,6,6,6,6,6,6,6,6,6,6,6,6,6,6,6,6,6,7,7,7,7,7,7,7,7,7,7,7,7,7,7,7,7,7,7,7,7,7,7,7,7,7,7,7,7,7,7,7,7,7,7,7,7,7,7,7,7,7,7,7,7,7,7,7,7,7,7,7,7,7,7,7,7,7,7,7,7,7,7,7,7,8,8,8,8,8,8,8,8,8,8,8,8,8,8,8,8,8,8,8,8,8,8,8,8,8,8,8,8,8,8,8,8,8,8,8,8,8,8,8,8,8,8,8,8,8,8,8,8,8,8,8,8,8,8,8,8,8,8,8,8,8,8,8,8,8,8,8,8,8,8,8,8,8,8,8,8,8,8,8,8,8,8,8,8,8,8,8,8,8,8,8,8,8,8,8,8,8,8,8,8,8,8,8,8,8,8,8,8,8,8,8,8,8,8,8,8,8,8,8,8,8,8,8,8,8,8,8,8]⟩:ByteArray) (ji15)
       replace p18:=eq_true p18
       replace q18:=eq_true q18
       go_wp2
       go_ret
       exact⟨by first|rfl|(simp;done)|(simp only[←hji15] <;> (first|rfl|simp))|(simp[*];done),by repeat(first|exact Drawn0.refl _|apply Drawn0.step)⟩
      ·rw[if_neg c17] at H
       exact absurd H (by simp)
     ·rw[if_neg c16] at H
      exact absurd H (by simp)
    ·rw[if_neg c14] at H
     have c14b0:decide (256≤x0_1)=false:=decide_eq_false c14
     clear c14
     obtain⟨ji19,hji19⟩: ∃ j_:Int,((x0_1) % 256)=j_:=⟨_,rfl⟩
     replace H:(if 0≤(ji19)then(if(ji19) < 256 then(some (wrap64 (x2_1+(wrap64 (bt (⟨#[0,1,2,2,3,3,3,3,4,4,4,4,4,4,4,4,5,5,5,5,5,5,5,5,5,5,5,5,5,5,5,5,6,6,6,6,6,6,6,6,6,6,6,6,6,6,6,6,6,6,6,6,6,6,6,6,6,6,6,6,6,6,6,6,7,7,7,7,7,7,7,7,7,7,7,7,7,7,7,7,7,7,7,7,7,7,7,7,7,7,7,7,7,7,7,7,7,7,7,7,7,7,7,7,7,7,7,7,7,7,7,7,7,7,7,7,7,7,7,7,7,7,7,7,7,7,7,7,8,8,8,8,8,8,8,8,8,8,8,8,8,8,8,8,8,8,8,8,8,8,8,8,8,8,8,8,8,8,8,8,8,8,8,8,8,8,8,8,8,8,8,8,8,8,8,8,8,8,8,8,8,8,8,8,8,8,8,8,8,8,8,8,8,8,8,8,8,8,8,8,8,8,8,8,8,8,8,8,8,8,8,8,8,8,8,8,8,8,8,8,8,8,8,8,8,8,8,8,8,8,8,8,8,8,8,8,8,8,8,8,8,8,8,8,8,8,8,8,8,8,8,8,8,8,8,8]⟩:ByteArray) (ji19))))))else(none))else(none))=some r:=by first|(rw[hji19] at H;exact H)|(simp only[hji19] at H⊢;exact H)
     by_cases c20:0≤(ji19)
     ·rw[if_pos c20] at H
      have c20b0:decide (0≤(ji19))=true:=decide_eq_true c20
      clear c20
      by_cases c21:(ji19) < 256
      ·rw[if_pos c21] at H
       have c21b0:decide ((ji19) < 256)=true:=decide_eq_true c21
       clear c21
       obtain rfl:=Option.some.inj H
       have p22:0≤((ji19):Int):=of_decide_eq_true (by first|(with_reducible assumption)|assumption)
       have q22:(ji19) < (256:Int):=of_decide_eq_true (by first|(with_reducible assumption)|assumption)
       have hx22:=bt_at (⟨#[0,1,2,2,3,3,3,3,4,4,4,4,4,4,4,4,5,5,5,5,5,5,5,5,5,5,5,5,5,5,5,5,6,6,6,6,6,6,6,6,6,6,6,6,6,6,6,6,6,6,6,6,6,6,6,6,6,6,6,6,6,6,6,6,7,7,7,7,7,7,7,7,7,7,7,7,7,7,7,7,7,7,7,7,7,7,7,7,7,7,7,7,7,7,7,7,7,7,7,7,7,7,7,7,7,7,7,7,7,7,7,7,7,7,7,7,7,7,7,7,7,7,7,7,7,7,7,7,8,8,8,8,8,8,8,8,8,8,8,8,8,8,8,8,8,8,8,8,8,8,8,8,8,8,8,8,8,8,8,8,8,8,8,8,8,8,8,8,8,8,8,8,8,8,8,8,8,8,8,8,8,8,8,8,8,8,8,8,8,8,8,8,8,8,8,8,8,8,8,8,8,8,8,8,8,8,8,8,8,8,8,8,8,8,8,8,8,8,8,8,8,8,8,8,8,8,8,8,8,8,8,8,8,8,8,8,8,8,8,8,8,8,8,8,8,8,8,8,8,8,8,8,8,8,8,8]⟩:ByteArray) (ji19)
       replace p22:=eq_true p22
       replace q22:=eq_true q22
       go_wp2
       go_ret
       exact⟨by first|rfl|(simp;done)|(simp only[←hji19] <;> (first|rfl|simp))|(simp[*];done),by repeat(first|exact Drawn0.refl _|apply Drawn0.step)⟩
      ·rw[if_neg c21] at H
       exact absurd H (by simp)
     ·rw[if_neg c20] at H
      exact absurd H (by simp)
end Go.Proofs.Ytefhljhpcpajgaa.F
