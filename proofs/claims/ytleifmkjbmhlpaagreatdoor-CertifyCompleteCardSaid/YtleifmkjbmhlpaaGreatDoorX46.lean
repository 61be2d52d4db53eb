/- The proof of a statement of the seat, part 46. -/
import Derived.WideKeyElems2
import Derived.LaidMore
import Derived.WideShapes
import Derived.Test.YtleifmkjbmhlpaaGreatDoorX45
import Derived.Test.YtleifmkjbmhlpaaGreatDoorRows
import Derived.LaidSub
import Derived.Lib.LaidTab
import Derived.Test.YtleifmkjbmhlpaaGreatDoorX38
import Derived.Test.YtleifmkjbmhlpaaGreatDoorX33
import Derived.Test.YtleifmkjbmhlpaaGreatDoorX39
set_option linter.all false
set_option linter.defProp false
set_option maxRecDepth 1000000
namespace Go.Sx
open Go
open Option renaming some->M,none->m_
open List renaming range->z,getElem?_cons_zero->a_,mem_cons_of_mem->b_,take_succ_cons->c_,mem_cons_self->d_,drop_zero->f_,take_zero->g_,getElem?_cons_succ->j_,take_append_drop->k_,drop_succ_cons->n_,not_mem_nil->o_,map_cons->p_,mem_cons->q_,map_nil->r_
open Go.Value renaming int->e_
open Go.IntKind renaming i64->h_
open Int renaming ofNat->i_
noncomputable section
section
open Go.WideShapes
def sx{P k}(a:P.underlying k=M (.int h_)){v n}(h:keyOf P k v=M (.int h_ n)):v= .int h_ n:=by
 unfold keyOf at h;rw[a]at h;unfold mapKey at h;rw[a]at h;cases v<;>simp at h;obtain⟨⟨rfl,_⟩,rfl⟩:=h;rfl
def AS{P W e i w rs x n sp v a b r}{f:FuncId}
  (t:P.underlying e=M (.struct #[i])) (y:i.offset=0) (l:P.cellsOf e=1) (o:P.cellsOf i.type=1) (C:P.underlying i.type=M (.func w rs x))
  (j:((z P.funcs.size).filter λf=>(P.funcs[f]?).any (·.name.toUTF8.data.toList==b::r))=[f])
  (h:WideElems.elemAt (funcToken P) P W 0 sp true n e v=M a) (g:a.1= .agg [.held (b::r)]):v= .agg #[.func (.func f) #[] #[]]:=by
 unfold WideElems.elemAt at h;split at h
 ·rename_i d;obtain⟨D,m,_,hx,hl,p,q⟩:=DataW.trod_struct t h;rw[hx]at g;simp only[DataW.agg.injEq]at g
  match D,p,g with
  |[E],_,g=>
   simp only[p_,r_,List.cons.injEq,and_true]at g;have k:=q 0 i A;rw[y,o,f_]at k;rw[l]at hl;obtain⟨c,u⟩:∃c,v.cells.toList=[c]:=by
    match F:v.cells.toList,hl with
    |[c],_=>exact⟨c,rfl⟩
   rw[u]at k;simp only[c_,g_,a_]at k;obtain⟨G,H⟩:=E;simp only at g;subst g;have s:=func_of_trod C j k;subst s;unfold Value.formed at d;cases v with
   |agg cs=>
    have:cs= #[.func (.func f) #[] #[]]:=by apply Array.ext';exact u
    rw[this]
   |_=>simp[t]at d
 ·cases h
def OM{P W t k e H L rs Q fuel cs p}{N:Nat->UInt8×List UInt8}{F:Nat->FuncId}
  (ht:P.underlying t=M (.map k e)) (s:P.underlying k=M (.int h_)) (u:P.underlying e=M (.struct #[H])) (v:H.offset=0) (l:P.cellsOf e=1) (m:P.cellsOf H.type=1) (w:P.underlying H.type=M (.func L rs Q))
  (c:∀i,i<5->((z P.funcs.size).filter λf=>(P.funcs[f]?).any (·.name.toUTF8.data.toList==(N i).1::(N i).2))=[F i])
  (h:DataW.trod (funcToken P) P W 0 (λ_=>true) true fuel t cs=M (.map [(.int h_ 1,.agg [.held ((N 0).1::(N 0).2)]),(.int h_ 2,.agg [.held ((N 1).1::(N 1).2)]),(.int h_ 3,.agg [.held ((N 2).1::(N 2).2)]),(.int h_ 4,.agg [.held ((N 3).1::(N 3).2)]),(.int h_ 5,.agg [.held ((N 4).1::(N 4).2)])],p)):
  ∃b ms j,cs=[.map (M b)]/\W.heap[b]? =M (.map ms j)/\(∀x∈ms.toList,∃i:Nat,i<5/\x.key= .int h_ ((i:Int)+1)/\x.val= .agg #[.func (.func (F i)) #[] #[]])/\∀i:Nat,i<5->∃x∈ms.toList,x.key= .int h_ ((i:Int)+1):=by
 rcases WideElems.open_map ht h with⟨_,hx⟩|⟨b,es,j,n,_,J,R,_,fit,hx⟩
 ·simp at hx
 ·simp only[Prod.mk.injEq,DataW.map.injEq]at hx;obtain⟨S,_⟩:=hx;have o:=sorted_perm (es.toList.map (WideElems.rg P k (WideElems.elemAt (funcToken P) P W 0 (λ_=>true) true n e)));rw[<-S]at o;refine⟨b,es,j,J,R,λx hx=>?_,λi hi=>?_⟩
  ·obtain⟨y,C⟩:=fit.reads x hx;have I:=o.mem_iff.2 (List.mem_map.2 ⟨x,hx,WideElems.rg_of C⟩);obtain⟨a,D,q⟩:=WideElems.rd_val C;have g:=WideElems.rd_key C;simp only[q_,o_,or_false]at I;rcases I with rfl|rfl|rfl|rfl|rfl
   ·exact⟨0,O,sx s g,AS u v l m w (c 0 O) D q.symm⟩
   ·exact⟨1,O,sx s g,AS u v l m w (c 1 O) D q.symm⟩
   ·exact⟨2,O,sx s g,AS u v l m w (c 2 O) D q.symm⟩
   ·exact⟨3,O,sx s g,AS u v l m w (c 3 O) D q.symm⟩
   ·exact⟨4,O,sx s g,AS u v l m w (c 4 O) D q.symm⟩
  ·have back:∀y∈[((.int h_ 1:Lit),(.agg [.held ((N 0).1::(N 0).2)]:DataW (List UInt8))),(.int h_ 2,.agg [.held ((N 1).1::(N 1).2)]),(.int h_ 3,.agg [.held ((N 2).1::(N 2).2)]),(.int h_ 4,.agg [.held ((N 3).1::(N 3).2)]),(.int h_ 5,.agg [.held ((N 4).1::(N 4).2)])],∃x∈es.toList,keyOf P k x.key=M y.1:=λy C=>by
    obtain⟨x,hx,E⟩:=List.mem_map.1 (o.mem_iff.1 C);obtain⟨T,G⟩:=fit.reads x hx;rw[WideElems.rg_of G]at E;subst E;exact⟨x,hx,WideElems.rd_key G⟩
   have r:∀n d,((.int h_ n:Lit),(d:DataW (List UInt8)))∈[((.int h_ 1:Lit),(.agg [.held ((N 0).1::(N 0).2)]:DataW (List UInt8))),(.int h_ 2,.agg [.held ((N 1).1::(N 1).2)]),(.int h_ 3,.agg [.held ((N 2).1::(N 2).2)]),(.int h_ 4,.agg [.held ((N 3).1::(N 3).2)]),(.int h_ 5,.agg [.held ((N 4).1::(N 4).2)])]->∃x∈es.toList,x.key= .int h_ n:=λn d I=>by obtain⟨x,hx,K⟩:=back _ I;exact⟨x,hx,sx s K⟩
   match i,hi with
   |0,_=>exact r 1 (.agg [.held ((N 0).1::(N 0).2)]) zA
   |1,_=>exact r 2 (.agg [.held ((N 1).1::(N 1).2)]) zA
   |2,_=>exact r 3 (.agg [.held ((N 2).1::(N 2).2)]) zA
   |3,_=>exact r 4 (.agg [.held ((N 3).1::(N 3).2)]) zA
   |4,_=>exact r 5 (.agg [.held ((N 4).1::(N 4).2)]) zA
   |i+5,h=>exact absurd h O
end
section
open Go.Deep
def ON{ρ:Env}{W:World}{a:Addr}{len cap m:Nat}{f:Nat->List AV}(o:G1 ρ W)(y:0<m)(hl:len<=cap)
  (c:∀j,j<len->∃us:List Value,us.length=m/\(∀u∈us,u.oneCell'=true)/\aV ρ.bare (f j) us/\∀k,k<m->W.cell? (a.add (j*m+k))=us[k]?):VR ρ (.ae len m f) (.slice (M a) len cap):=by
 by_cases C:len=0
 ·subst C;simp only[VR];exact .inr ⟨0,0,cap,a,λ_=>[],rfl,hl,λh=>absurd h (Pa _)⟩
 ·obtain⟨p,H,_,_,c0⟩:=c 0 O;have d:=c0 0 y;have D:a.add (0*m+0)=a:=by simp[Addr.add]
  rw[D]at d;obtain⟨b,off,i⟩:=a;have e:i=m_/\∃cs el r,W.heap[b]? =M (.cells cs el r):=by
   have s:p[0]? ≠m_:=by rw[oa O];exactλh=>zE
   unfold World.cell? at d;split at d
   ·simp_all
   ·grind
  obtain⟨rfl,cs,el,r,v⟩:=e;have E:∀q,(Addr.mk b off m_).add q=⟨b,off+q,m_⟩:=λq=>by unfold Addr.add;simp
  have row:∀j,j<len->∃us:List Value,us.length=m/\(∀u∈us,u.oneCell'=true)/\aV ρ.bare (f j) us/\off+j*m+m<=cs.toList.length/\(cs.toList.drop (off+j*m)).take m=us:=by
   intro j w;obtain⟨us,F,G,h3,h4⟩:=c j w;have t:∀k,k<m->cs.toList[off+j*m+k]? =us[k]? :=λk x=>by
    have:=h4 k x;rw[E]at this;simp only[World.cell?,v,Option.isSome_none,lu,if_false]at this
    grind
   have g:off+j*m+m<=cs.toList.length:=by have:=t (m-1) O;rw[oa (O:m-1<us.length)]at this;have:=(List.getElem?_eq_some_iff.1 this).1;omega
   refine⟨us,F,G,h3,g,?_⟩;apply List.ext_getElem?;intro k;by_cases x:k<m
   ·grind
   ·grind
  have n:off+len*m<=cs.toList.length:=by
   obtain⟨_,_,_,_,h,_⟩:=row (len-1) O;have I:(len-1)*m+m=len*m:=by obtain⟨l,rfl⟩:∃l,len=l+1:=⟨len-1,O⟩;rw[Nat.add_sub_cancel,Nat.succ_mul]
   omega
  simp only[VR];refine .inr ⟨b,off,cap,⟨b,off,m_⟩,λj=>(cs.toList.drop (off+j*m)).take m,rfl,hl,λ_=>⟨rfl,⟨?_,cs.toList.take off,cs.toList.drop (off+len*m),Y,?_⟩,λj w=>?_⟩⟩
  grind
  ·rw[o b cs el r v,ua n,<-List.drop_drop];rw[List.append_assoc,k_,k_]
  grind
def JR{H}{enc:TypeId×Value->H}{P W sp held fuel t c s p}(ht:P.underlying t=M .string)
  (h:DataW.trod enc P W 0 sp held fuel t [c]=M (.lit (.string s),p)):c= .string ⟨s.toArray⟩:=by
 obtain⟨b,a,d,_⟩:=DataW.trod_string ht h;simp_all
def Zi{H}{enc:TypeId×Value->H}{P W sp held fuel t a rs b c p}(ht:P.underlying t=M (.func a rs b))
  (h:DataW.trod enc P W 0 sp held fuel t [c]=M (.nil,p)):c= .nilFunc:=by
 cases fuel with
 |zero=>simp[DataW.trod]at h
 |succ n=>cases c<;>simp[DataW.trod,ht]at h<;>rfl
def Zj{ρ P W e a f1 sp fuel cs x j d1 a0 a1}(o:P.underlying e=M (.struct #[a,f1]))(q:a.offset=0)(r:f1.offset=1)(c0:P.cellsOf a.type=1)(c1:P.cellsOf f1.type=1)(s:P.cellsOf e=2)
  (h:DataW.trod (funcToken P) P W 0 sp true fuel e cs=M x) (hx:x.1= .agg [j,d1])
  (t:∀n c p,DataW.trod (funcToken P) P W 0 sp true n a.type [c]=M (j,p)->VR ρ a0 c/\c.oneCell'=true) (v:∀n c p,DataW.trod (funcToken P) P W 0 sp true n f1.type [c]=M (d1,p)->VR ρ a1 c/\c.oneCell'=true):
  ∃us,cs=us/\us.length=2/\(∀u∈us,u.oneCell'=true)/\aV ρ [a0,a1] us:=by
 obtain⟨w,n,_,d,hl,f,b⟩:=DataW.trod_struct o h;rw[d]at hx;simp only[DataW.agg.injEq]at hx;rw[s]at hl
 match w,f,hx with
 |[k,l],_,hx=>
  match cs,hl with
  |[m,g],_=>
   simp only[p_,r_,List.cons.injEq,and_true]at hx;have i:=b 0 a A;have g1:=b 1 f1 A;rw[q,c0]at i;rw[r,c1]at g1;simp only[f_,c_,g_,a_]at i;simp only[n_,f_,c_,g_,j_,a_]at g1;obtain⟨k,p0⟩:=k;obtain⟨l,C⟩:=l;obtain⟨rfl,rfl⟩:=hx;obtain⟨k1,k2⟩:=t _ _ _ i;obtain⟨y,D⟩:=v _ _ _ g1;refine⟨[m,g],rfl,rfl,λu E=>?_,⟨m,[g],rfl,k1,g,[],rfl,y,rfl⟩⟩
   grind
def Lv{ρ f}{c:Value}(h:c= .func (.func f) #[] #[]):VR ρ (.fn f [] []) c/\c.oneCell'=true:=by
 subst h;refine⟨?_,rfl⟩;simp only[VR];exact⟨[],[],rfl,rfl,rfl⟩
def abx{ρ s c}(h:c= .string ⟨s.toArray⟩):VR ρ (.str s) c/\c.oneCell'=true:=by
 subst h;exact⟨zB,rfl⟩
end
section
open Go.Deep Go.Proofs
open Go.Proofs.YtleifmkjbmhlpaaGreatDoor (Rows.certifySmallRow)
def uX{P W n d}:∀{l a},DataW.LaidVars P W l a->(n,d)∈l->
  ∃g t cs fuel p,P.globalNamed n=M g/\(P.globals[g]?).map (·.type)=M t/\W.var? P n=M cs/\DataW.trod (λ_=>()) P W 0 (λ_=>true) false fuel t cs.toList=M (d,p)
 |[],_,_,h=>zE
 |(f,i)::l,_,⟨g,t,cs,fuel,p,q,h1,b,h3,h4,c,_⟩,h=>by
  rcases List.mem_cons.1 h with e|h
  ·cases e;exact⟨g,t,cs,fuel,p,h1,b,h3,h4⟩
  ·exact uX c h
def Eh{P W l}(a:laidMetH P l W){n d}(b:(n,d)∈l)(c:d.handleName?.isNone=true):
  ∃g t cs fuel p,P.globalNamed n=M g/\(P.globals[g]?).map (·.type)=M t/\W.var? P n=M cs/\DataW.trod (λ_=>()) P W 0 (λ_=>true) false fuel t cs.toList=M (d,p):=by
 obtain⟨⟨e,h,_⟩,_⟩:=laidMetH_iff.1 a;exact uX h (List.mem_filter.2 ⟨b,c⟩)
def uY{P}{W:World}{n g cs}(b:P.globalNamed n=M g)(h:W.var? P n=M cs):∃el a,W.heap[g]? =M (.cells cs el a):=by
 simp only[World.var?,b,Option.bind_some]at h;split at h
 ·rename_i c el a d;cases h;exact⟨el,a,d⟩
 ·cases h
def TT{cs}{v:Value}(h:cs.toList=[v]):cs= #[v]:=by
 apply Array.ext';exact h
def aby:PP.globalNamed "latecomer/query.operators" =M 0:=U
def aaJ:PP.globalNamed "latecomer/answer.zero" =M 1:=U
def Zk:PP.globalNamed "latecomer/digest.round" =M 2:=U
def aaK:PP.globalNamed "latecomer/answer.aggregates" =M 3:=U
def abz:(PP.globals[0]?).map (·.type)=M 99:=U
def aaL:(PP.globals[1]?).map (·.type)=M 32:=U
def Zl:(PP.globals[2]?).map (·.type)=M 236:=U
def aaM:(PP.globals[3]?).map (·.type)=M 264:=U
def c1:PP.cellsOf 3=1/\PP.cellsOf 9=1/\PP.cellsOf 96=1/\PP.cellsOf 218=1/\PP.cellsOf 263=1/\PP.cellsOf 159=1:=⟨U,U,U,U,U,U⟩
def c2:PP.cellsOf 98=2/\PP.cellsOf 32=2/\PP.cellsOf 236=64/\PP.cellsOf 81=4/\PP.cellsOf 72=3/\PP.cellsOf 25=4/\PP.cellsOf 23=1:=⟨U,U,U,U,U,U,U⟩
def dA(c:UInt8):UInt8×List UInt8:=(108,[97,116,101,99,111,109,101,114,47,113,117,101,114,121,46,111,112,101,114,97,116,111,114,115,36,c])
def jc(i:Nat):UInt8×List UInt8:=(108,[97,116,101,99,111,109,101,114,47,97,110,115,119,101,114,46,97,103,103,114,101,103,97,116,101,115,36,match i with|0=>49|1=>50|2=>51|3=>52|_=>53])
def wY(i:Nat):FuncId:=match i with|0=>317|1=>319|2=>321|3=>323|_=>324
def aaN:((z PP.funcs.size).filter λf=>(PP.funcs[f]?).any (·.name.toUTF8.data.toList==(dA 49).1::(dA 49).2))=[313]:=U
def aaO:((z PP.funcs.size).filter λf=>(PP.funcs[f]?).any (·.name.toUTF8.data.toList==(dA 50).1::(dA 50).2))=[314]:=U
def aaP:((z PP.funcs.size).filter λf=>(PP.funcs[f]?).any (·.name.toUTF8.data.toList==(dA 51).1::(dA 51).2))=[315]:=U
def aaQ:((z PP.funcs.size).filter λf=>(PP.funcs[f]?).any (·.name.toUTF8.data.toList==(dA 52).1::(dA 52).2))=[316]:=U
def WD:((z PP.funcs.size).filter λf=>(PP.funcs[f]?).any (·.name.toUTF8.data.toList==(jc 0).1::(jc 0).2))=[wY 0]:=U
def WE:((z PP.funcs.size).filter λf=>(PP.funcs[f]?).any (·.name.toUTF8.data.toList==(jc 1).1::(jc 1).2))=[wY 1]:=U
def WG:((z PP.funcs.size).filter λf=>(PP.funcs[f]?).any (·.name.toUTF8.data.toList==(jc 2).1::(jc 2).2))=[wY 2]:=U
def WH:((z PP.funcs.size).filter λf=>(PP.funcs[f]?).any (·.name.toUTF8.data.toList==(jc 3).1::(jc 3).2))=[wY 3]:=U
def WI:((z PP.funcs.size).filter λf=>(PP.funcs[f]?).any (·.name.toUTF8.data.toList==(jc 4).1::(jc 4).2))=[wY 4]:=U
def Zm(i)(hi:i<5):((z PP.funcs.size).filter λf=>(PP.funcs[f]?).any (·.name.toUTF8.data.toList==(jc i).1::(jc i).2))=[wY i]:=by
 match i,hi with
 |0,_=>exact WD
 |1,_=>exact WE
 |2,_=>exact WG
 |3,_=>exact WH
 |4,_=>exact WI
 |i+5,h=>exact absurd h O
end
section
open Go.Deep Go.Proofs
open Go.Proofs.YtleifmkjbmhlpaaGreatDoor (Rows.certifySmallRow)
def OO{W}(l:laidMetH PP Rows.certifySmallRow.laid W):∃b el c ms a,W.heap[3]? =M (.cells #[.map (M b)] el c)/\W.heap[b]? =M (.map ms a)/\∀ρ,lx ρ oW ms.toList:=by
 obtain⟨g,t,cs,fuel,p,k,ht,m,o⟩:=l.funcs (n := "latecomer/answer.aggregates") (d:=_) (by
  show _∈[_,_,_,_,_,_,_,_,_,_,_]
  iterate 9 apply b_
  exact d_)
 obtain rfl:=Option.some.inj (aaK.symm.trans k);obtain rfl:=Option.some.inj (aaM.symm.trans ht);obtain⟨b,ms,a,e,q,r,s⟩:=OM (N:=jc) (F:=wY) Tryz.underlying264 Tryz.underlying3 Tryz.underlying263 rfl c1.2.2.2.2.1 c1.2.2.2.1 Tryz.underlying218 Zm (h:=o);obtain⟨el,c,h3⟩:=uY k m;rw[TT e]at h3;refine⟨b,el,c,ms,a,h3,q,λρ=>?_⟩;obtain⟨j,k1,k2,u⟩:=TS (V:=λi=> .agg #[.func (.func (wY i)) #[] #[]]) r s;have fn:∀f,VR ρ (.agg [.fn f [] []]) (.agg #[.func (.func f) #[] #[]]):=λf=>by simp only[VR];exact⟨[.func (.func f) #[] #[]],rfl,aV.aM.2 ⟨by simp only[VR];exact⟨[],[],rfl,rfl,rfl⟩,rfl⟩⟩
 refine⟨j,?_,?_,(λh=>zE),u⟩
 ·rw[k1];have i:∀n,VR ρ (.int h_ n) (.int h_ n):=λn=>zB
  exact aV.aM.2 ⟨i 1,aV.aM.2 ⟨i 2,aV.aM.2 ⟨i 3,aV.aM.2 ⟨i 4,aV.aM.2 ⟨i 5,rfl⟩⟩⟩⟩⟩
 ·rw[k2];exact aV.aM.2 ⟨fn 317,aV.aM.2 ⟨fn 319,aV.aM.2 ⟨fn 321,aV.aM.2 ⟨fn 323,aV.aM.2 ⟨fn 324,rfl⟩⟩⟩⟩⟩
def OP{W}(o:laidMetH PP Rows.certifySmallRow.laid W):∃el h,W.heap[1]? =M (.cells #[.string ⟨[48].toArray⟩,.string ⟨[49].toArray⟩] el h):=by
 obtain⟨g,t,cs,fuel,p,k,ht,q,r⟩:=Eh o (n := "latecomer/answer.zero") (d:=_) (by
  show _∈[_,_,_,_,_,_,_,_,_,_,_]
  iterate 8 apply b_
  exact d_) A
 obtain rfl:=Option.some.inj (aaJ.symm.trans k);obtain rfl:=Option.some.inj (aaL.symm.trans ht);obtain⟨el,h,h3⟩:=uY k q;obtain⟨s,n,_,hx,hl,i,a⟩:=DataW.trod_struct Tryz.underlying32 r;have hl:cs.toList.length=2:=hl.trans c2.2.1;have u:PP.cellsOf 9=1:=c1.2.1;simp only[Prod.mk.injEq]at hx;obtain⟨hx,_⟩:=hx
 match s,i,hx with
 |[e,f],_,hx=>
  match b:cs.toList,hl with
  |[l,m],_=>
   have j:DataW.trod (λ_=>()) Tryz.prog W 0 (λ_=>true) false n 9 (([l,m].drop 0).take (Tryz.prog.cellsOf 9))=M e:=by have:=a 0 _ A;rw[b]at this;exact this
   have g1:DataW.trod (λ_=>()) Tryz.prog W 0 (λ_=>true) false n 9 (([l,m].drop 1).take (Tryz.prog.cellsOf 9))=M f:=by have:=a 1 _ A;rw[b]at this;exact this
   rw[show Tryz.prog.cellsOf 9=1 from u]at j g1;simp only[f_,c_,g_,a_]at j;simp only[n_,f_,c_,g_,j_,a_]at g1;obtain⟨e,p0⟩:=e;obtain⟨f,x⟩:=f;have c:([.lit (.string [48]),.lit (.string [49])]:List (DataW Unit))=[e,f]:=by injection hx
   simp only[List.cons.injEq,and_true]at c;obtain⟨rfl,rfl⟩:=c;have v:=JR Tryz.underlying9 j;have w:=JR Tryz.underlying9 g1;subst v w;refine⟨el,h,?_⟩;rw[h3];congr 2
   grind
def JS{W}(b:laidMetH PP Rows.certifySmallRow.laid W):∃el a,W.heap[2]? =M (.cells (kE.vx.map λn=>e_ .u32 (i_ n)).toArray el a):=by
 obtain⟨g,t,cs,fuel,p,c,ht,e,f⟩:=Eh b (n := "latecomer/digest.round") (d:=_) (by
  show _∈[_,_,_,_,_,_,_,_,_,_,_]
  iterate 6 apply b_
  exact d_) A
 obtain rfl:=Option.some.inj zI;obtain rfl:=Option.some.inj zI;obtain⟨el,a,h3⟩:=uY c e;have:=Lib.cells_of_tab (k:=.u32) (zs:=kE.vx.map λn=>i_ n) Tryz.underlying236 Tryz.underlying159 c1.2.2.2.2.2 c2.2.2.1 f;refine⟨el,a,?_⟩;rw[h3];congr 2;apply Array.ext'
 assumption
def TU{ρ:Env}{W:World}(i:G1 ρ W)(I:laidMetH PP Rows.certifySmallRow.laid W):∃v el l,W.heap[0]? =M (.cells #[v] el l)/\VR ρ (.ae 5 2 aC) v/\v.oneCell'=true:=by
 obtain⟨g,t,cs,fuel,p,C,ht,J,K⟩:=I.funcs (n := "latecomer/query.operators") (d:=_) (by
  show _∈[_,_,_,_,_,_,_,_,_,_,_]
  iterate 7 apply b_
  exact d_)
 obtain rfl:=Option.some.inj (aby.symm.trans C);obtain rfl:=Option.some.inj (abz.symm.trans ht);obtain⟨el,l,h3⟩:=uY C J;rcases open_slice Tryz.underlying99 K with⟨_,hx⟩|⟨a,len,cap,m,n,D,U,o,_,hl,_,hm,hx,q⟩
 ·exact absurd hx (λe=>zG)
 rw[TT o]at h3;refine⟨_,el,l,h3,?_,rfl⟩;simp only[Prod.mk.injEq]at hx;have r:DataW.slice [.agg [.lit (.string []),.nil],.agg [.lit (.string [61]),.held ((dA 49).1::(dA 49).2)],.agg [.lit (.string [33,61]),.held ((dA 50).1::(dA 50).2)],.agg [.lit (.string [60]),.held ((dA 51).1::(dA 51).2)],.agg [.lit (.string [62,61]),.held ((dA 52).1::(dA 52).2)]] []=DataW.slice ((z len).map D) ((z (m-len)).map λj=>D (len+j)):=hx.1;have w:[.agg [.lit (.string []),.nil],.agg [.lit (.string [61]),.held ((dA 49).1::(dA 49).2)],.agg [.lit (.string [33,61]),.held ((dA 50).1::(dA 50).2)],.agg [.lit (.string [60]),.held ((dA 51).1::(dA 51).2)],.agg [.lit (.string [62,61]),.held ((dA 52).1::(dA 52).2)]]=(z len).map D:=by injection r
 have L:len=5:=by have:=congrArg List.length w;simpa using this.symm
 subst L;have b:∀j d,[.agg [.lit (.string []),.nil],.agg [.lit (.string [61]),.held ((dA 49).1::(dA 49).2)],.agg [.lit (.string [33,61]),.held ((dA 50).1::(dA 50).2)],.agg [.lit (.string [60]),.held ((dA 51).1::(dA 51).2)],.agg [.lit (.string [62,61]),.held ((dA 52).1::(dA 52).2)]][j]? =M d->j<5->D j=d:=λj d h E=>by
  grind
 have N:5<=m:=by rw[hm];split<;>omega
 have F:PP.cellsOf 98=2:=c2.1;have str:∀s n c p,DataW.trod (funcToken PP) PP W 0 (λ_=>true) true n 9 [c]=M (.lit (.string s),p)->VR ρ.bare (.str s) c/\c.oneCell'=true:=λs n c p h=>abx (JR Tryz.underlying9 h)
 refine ON i O hl λj E=>?_
 obtain⟨x,G,P⟩:=q j O;rw[F]at G;obtain⟨_,H,Q⟩:=World.cells?_some G;have cells:∀k,k<2->W.cell? (a.add (j*2+k))=x[k]? :=λk R=>by have:=Q k R;rw[<-add_add];exact this
 have f:∀y d1 a0 a1,D j= .agg [y,d1]->aC j=[a0,a1]->(∀n c p,DataW.trod (funcToken PP) PP W 0 (λ_=>true) true n 9 [c]=M (y,p)->VR ρ.bare a0 c/\c.oneCell'=true)->(∀n c p,DataW.trod (funcToken PP) PP W 0 (λ_=>true) true n 96 [c]=M (d1,p)->VR ρ.bare a1 c/\c.oneCell'=true)->
   ∃us:List Value,us.length=2/\(∀u∈us,u.oneCell'=true)/\aV ρ.bare (aC j) us/\∀k,k<2->W.cell? (a.add (j*2+k))=us[k]? :=λy d1 a0 a1 S V T k1=>by
  obtain⟨us,rfl,g1,g2,g3⟩:=Zj (ρ:=ρ.bare) (a0:=a0) (a1:=a1) Tryz.underlying98 rfl rfl c1.2.1 c1.2.2.1 F P S T k1
  grind
 match j,E with
 |0,_=>exact f _ _ _ _ (b 0 _ A O) A (str []) λn c p h=>by rw[Zi Tryz.underlying96 h];exact⟨zB,rfl⟩
 |1,_=>exact f _ _ _ _ (b 1 _ A O) A (str [61]) λn c p h=>Lv (func_of_trod Tryz.underlying96 aaN h)
 |2,_=>exact f _ _ _ _ (b 2 _ A O) A (str [33,61]) λn c p h=>Lv (func_of_trod Tryz.underlying96 aaO h)
 |3,_=>exact f _ _ _ _ (b 3 _ A O) A (str [60]) λn c p h=>Lv (func_of_trod Tryz.underlying96 aaP h)
 |4,_=>exact f _ _ _ _ (b 4 _ A O) A (str [62,61]) λn c p h=>Lv (func_of_trod Tryz.underlying96 aaQ h)
 |j+5,h=>omega
end
def qw(W:World)(b:Nat):Env where
 pl l:=if l<12 then M (l,match W.heap[l]? with|some (.cells cs _ _)=>cs.size|_=>0)else if l=13 then M (b,0)else m_
 fz k:=match W.heap[k]? with|some (.cells cs _ _)=>M cs.toList|_=>m_
def G2(W)(b):G1 (qw W b) W:=λk cs el a h=>by
 show(match W.heap[k]? with|some (.cells cs _ _)=>M cs.toList|_=>m_)=_;rw[h]
def G3(W:World)(b:Nat):fE where
 w0:=W
 Z k:=k<W.heap.size
 G:=12
 X _:=False
 E _:=False
 Hc:=qw W b
def Lw(l):(Hs.get l).rw=false:=uO (P:=λ_ b=>b.rw=false) A A A A A (λ_=>rfl) l
def uZ{ρ W}(b:G1 ρ W){g cs el c a}(h:W.heap[g]? =M (.cells cs el c))(d:ρ g=M (g,cs.size))(f:aV ρ a cs.toList)(i:∀v∈cs.toList,v.oneCell'=true):aE ρ W (ρ g) a .ro:=by
 refine .inr ⟨g,cs.size,cs.toList,[],el,c,d,?_,zA,f,⟨(λe=>zG),zA,zA⟩,i,λ_=>?_⟩;simp_all
 ·rw[List.append_nil];exact b g cs el c h
def Zn{W b}(ops:∃v el c,W.heap[0]? =M (.cells #[v] el c)/\VR (qw W b) (.ae 5 2 aC) v/\v.oneCell'=true)(zero:∃el c,W.heap[1]? =M (.cells #[.string ⟨[48].toArray⟩,.string ⟨[49].toArray⟩] el c))
  (round:∃el c,W.heap[2]? =M (.cells (kE.vx.map λn=>e_ .u32 (i_ n)).toArray el c)) (abA:∃el c ms a,W.heap[3]? =M (.cells #[.map (M b)] el c)/\W.heap[b]? =M (.map ms a)/\∀ρ,lx ρ oW ms.toList):
  Rel (G3 W b) (qw W b) Hs W:=by
 have d:=G2 W b;have pl:∀g cs el c,g<12->W.heap[g]? =M (.cells cs el c)->qw W b g=M (g,cs.size):=λg cs el c j h=>by show(if g<12 then M (g,match W.heap[g]? with|some (.cells cs _ _)=>cs.size|_=>0)else _)=_;rw[if_pos j,h]
 obtain⟨v,m,o,p,q,F⟩:=ops;obtain⟨s,t,z1⟩:=zero;obtain⟨u,w,r1⟩:=round;obtain⟨y,C,ms,a,a1,a2,D⟩:=abA;have f:∀l,14<=l->Hs.get l= .dead:=λl hl=>by rw[Jk,if_neg O,if_neg O,if_neg O,if_neg O,if_neg O]
 refine {eB:=λl=>?_,sep:=λl G r N H _ h=>(by rw[Lw]at h;cases h),iB:=λl r N h=>(by rw[Lw]at h;cases h),gY:=λk i=>?_,size:=dP _,os:=rfl,output:=rfl,tape:=rfl,top:=λl hl=>?_,eZ:=λg j=>⟨_,if_pos j⟩,hid:=λ_ _ _ _ _ h=>h,env:=λ_ h=>h.elim,low:=f,sY:=λk vs h=>?_,sy:=λl r N h=>(by rw[Lw]at h;cases h),tJ:=λ_ h=>h.elim,sZ:=λ_ _ h=>h}
 ·refine uO (P:=λl eB=>bn (qw W b) W (qw W b l) eB) ?_ ?_ ?_ ?_ ?_ (λ_=>trivial) l
  ·exact uZ d p Y (aV.aM.2 ⟨q,rfl⟩) Y
  ·exact uZ d z1 Y (aV.aM.2 ⟨zB,aV.aM.2 ⟨zB,rfl⟩⟩) (λx hx=>by simp only[q_,o_,or_false]at hx;rcases hx with rfl|rfl<;>rfl)
  ·refine uZ d r1 Y ?_ (λx hx=>?_)
   ·have:∀l:List Nat,aV (qw W b) (l.map λn=>AV.int .u32 (i_ n)) (l.map λn=>e_ .u32 (i_ n)):=λl=>by
     induction l with
     |nil=>exact A
     |cons n l E=>exact aV.aM.2 ⟨zB,E⟩
    exact this _
   ·obtain⟨n,_,rfl⟩:=List.mem_map.1 hx;rfl
  ·exact uZ d a1 Y (aV.aM.2 ⟨by simp only[VR];exact⟨b,0,rfl,rfl⟩,rfl⟩) (λx hx=>by
    have:x= .map (M b):=by simpa using hx
    rw[this];rfl)
  ·exact⟨b,0,ms.toList,a,rfl,a2,D _,λe=>zG⟩
 ·rcases i with i|i
  ·exact⟨i,rfl⟩
  ·exact i.elim
 ·have hl:14<=l:=hl;show(if l<12 then _ else if l=13 then _ else m_)=m_
  grind
 ·have h:(match W.heap[k]? with|some (.cells cs _ _)=>M cs.toList|_=>m_)=M vs:=h;split at h
  ·rename_i cs el c I;cases h;simp_all
  ·cases h
section
open Go.Deep Go.Proofs
open Go.Proofs.YtleifmkjbmhlpaaGreatDoor (Rows.certifySmallRow)
def abB:PP.globalNamed "internal/strconv.uint64pow10" =M 6:=U
def abC:(PP.globals[6]?).map (·.type)=M 356:=U
def c3:PP.cellsOf 243=1/\PP.cellsOf 356=20:=⟨U,U⟩
def TV{W}(e:laidMetH PP Rows.certifySmallRow.laid W):∃el b,W.heap[6]? =M (.cells (Lib.pow10Tab.map λa=>e_ .u64 a).toArray el b):=by
 obtain⟨g,t,cs,fuel,p,c,ht,f,h⟩:=Eh e (n := "internal/strconv.uint64pow10") (d:=_) (by
  show _∈[_,_,_,_,_,_,_,_,_,_,_]
  iterate 2 apply b_
  exact d_) A
 obtain rfl:=Option.some.inj (abB.symm.trans c);obtain rfl:=Option.some.inj (abC.symm.trans ht);obtain⟨el,b,h3⟩:=uY c f;have:=Lib.cells_of_tab (k:=.u64) (zs:=Lib.pow10Tab) Tryz.underlying356 Tryz.underlying243 c3.1 c3.2 h;refine⟨el,b,?_⟩;rw[h3];congr 2
 grind
def Hl:AH:=Hs.set 6 (.cells dS (.ex 20))
def JT(l):Hl.get l=if l=6 then .cells dS (.ex 20)else Hs.get l:=AH.bk _ _ _ _
def Lx(ρ):∀l:List Int,aV ρ (l.map λa=>AV.int .u64 a) (l.map λa=>e_ .u64 a)
 |[]=>rfl
 |_::l=>aV.aM.2 ⟨zB,Lx ρ l⟩
def Zo{W b}(r:Rel (G3 W b) (qw W b) Hs W)(c:∃el d,W.heap[6]? =M (.cells (Lib.pow10Tab.map λa=>e_ .u64 a).toArray el d)):Rel (G3 W b) (qw W b) Hl W:=by
 have f:∀l,(Hl.get l).rw=false:=λl=>by
  rw[JT];split
  ·rfl
  ·exact Lw l
 obtain⟨el,d,i⟩:=c;refine⟨λl=>?_,Y,by simp_all,r.gY,r.size,r.os,r.output,r.tape,r.top,r.eZ,λ_ _ _ _ _ h=>h,λ_ h=>h.elim,λl hl=>?_,r.sY,by simp_all,r.tJ,r.sZ⟩
 ·rw[JT];by_cases e:l=6
  ·subst e;rw[if_pos A];have hl:(Lib.pow10Tab.map λa=>e_ .u64 a).length=20:=by rw[List.length_map,Lib.pow10Tab_length]
   refine .inr ⟨6,20,Lib.pow10Tab.map λa=>e_ .u64 a,[],el,d,?_,zI,by rfl,Lx _ _,⟨(λh=>zE),zA,zA⟩,λv g=>?_,λh=>zE⟩
   ·show(if 6<12 then M (6,match W.heap[6]? with|some (.cells cs _ _)=>cs.size|_=>0)else(if 6=13 then M (b,0)else m_))=M (6,20)
    grind
   ·obtain⟨a,_,rfl⟩:=List.mem_map.1 g;rfl
  ·rw[if_neg e];exact r.eB l
 ·rw[JT];have hl:14<=l:=hl;rw[if_neg O];exact r.low l hl
end
section
open Small
end
end
end Go.Sx
