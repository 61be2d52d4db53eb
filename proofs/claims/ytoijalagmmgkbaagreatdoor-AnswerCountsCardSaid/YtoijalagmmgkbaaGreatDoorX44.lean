/- The proof of a statement of the seat, part 44. -/
import Derived.OpenShut
import Derived.ReadAgain
import Derived.ChangeStays
import Derived.ChangeSame
import Derived.Deep.Slices
import Derived.Test.YtoijalagmmgkbaaGreatDoorX43
import Derived.Test.YtoijalagmmgkbaaGreatDoorX03
import Derived.WideKeyElems2
import Derived.LaidMore
import Derived.WideShapes
import Derived.Test.YtoijalagmmgkbaaGreatDoorRows
import Derived.LaidSub
import Derived.Lib.LaidTab
import Derived.Test.YtoijalagmmgkbaaGreatDoorX38
set_option linter.all false
set_option linter.defProp false
set_option maxRecDepth 1000000
namespace Go.Sx
open Go
open Option renaming some->M,none->s_,isSome_none->y_
open List renaming mem_cons_of_mem->z,mem_cons_self->a_,range->b_,getElem?_cons_zero->d_,take_succ_cons->e_,take_append_drop->f_,append_nil->g_,getElem?_drop->i_,drop_zero->j_,take_zero->k_,map_cons->l_,getElem?_take_of_lt->m_,length_take->n_,not_mem_nil->o_,mem_cons->p_,map_nil->r_,getElem?_cons_succ->u_,mem_append_right->w_,getElem?_eq_none->x_,mem_append_left->z_,drop_succ_cons->A_,append_assoc->C_,getElem?_map->D_,drop_drop->E_
open Go.IntKind renaming i64->c_
open Go.Value renaming int->h_,string->F_
open _root_.Array renaming ext'->q_
open Nat renaming add_assoc->t_,succ_mul->v_,add_sub_cancel->B_
noncomputable section
section
open Go.ChangeShapes Go.WideShapes Go.Deep
def RP(m:Nat)(X:Nat->Nat->Int)(j:Nat):List AV:=(b_ m).map λk=> .int c_ (X j k)
def xB(ρ:Env)(W:World):Prop := ∀b cs el fr,W.heap[b]? =M (.cells cs el fr)->ρ.fz b=M cs.toList
section
variable {H:Type} {enc:TypeId×Value->H} {P:Program} {W:World} {sp:Nat->Bool} {held:Bool}
theorem xC{a:Int}(h:(Lit.int c_ a).wf=true):aN c_ a=true:=by
 unfold aN
 rw[Km,Km]
 exact h
theorem zx{ρ:Env}:∀{m:Nat}{us:List Value}{x:Nat->Int},us.length=m->(∀k,k<m->us[k]? =M (.int c_ (x k)))->aU ρ ((b_ m).map λk=> .int c_ (x k)) us
 |0,us,x,hl,_=>by
  have:us=[]:=List.length_eq_zero_iff.1 hl
  subst this;exact A
 |m+1,us,x,hl,h=>by
  match us,hl,h with
  |u::us,hl,h=>
   have a:=h 0 O
   simp only[d_,fE]at a
   rw[List.range_succ_eq_map,l_,List.map_map]
   refine⟨u,us,rfl,a,zx (m:=m) (x:=λk=>x (k+1)) (by simpa using hl) λk b=>?_⟩
   have:=h (k+1) O
   simpa using this
theorem zy{ρ:Env}(J:xB ρ W){t e i m:Nat}{fuel:Nat}{v:Value}{x:DataW H×List MemPlace}(ht:P.underlying t=M (.slice e))(Y:P.underlying e=M (.array m i))(hi:P.underlying i=M (.int c_))(Z:P.cellsOf i=1)(ce:P.cellsOf e=m)(hm:0<m)
  (h:DataW.trod enc P W 0 sp held fuel t [v]=M x):∃(n:Nat)(X:Nat->Nat->Int),VR ρ (.ab n m (RP m X)) v/\∀j,j<n->∀k,k<m->aN c_ (X j k)=true:=by
 rcases open_slice ht h with⟨h0,_⟩|⟨a,len,cap,mm,nn,D,Pl,hv,_,hl,_,K,_,hx⟩
 ·cases h0
  refine⟨0,λ_ _=>0,?_,λj f=>absurd f (lZ _)⟩
  simp[VR]
 ·cases hv
  have ad:len<=mm:=by rw[K];split<;>omega
  rw[ce]at hx
  by_cases E:len=0
  ·subst E
   refine⟨0,λ_ _=>0,?_,λj f=>absurd f (lZ _)⟩
   simp only[VR]
   exact .inr ⟨0,0,cap,a,λ_=>[],rfl,hl,λh=>absurd h (HD _)⟩
  ·have cells:∀j k,j<len->k<m->∃d,W.cell? (a.add (j*m+k))=M (.int c_ d)/\aN c_ d=true:=by
    intro j k f g
    obtain⟨L,G,N⟩:=hx j O
    obtain⟨_,o,hc⟩:=World.cells?_some G
    obtain⟨xs,m',_,_,_,_,Q⟩:=DataW.trod_array Y N
    have r:=Q k g
    rw[Z,Nat.mul_one]at r
    have R:k<xs.length:=O
    rw[mo R]at r
    obtain⟨d,S,_,T⟩:=DataW.trod_int hi r
    have U:L[k]? =M (.int c_ d):=by
     have:=congrArg (·[0]?) S
     simpa [List.getElem?_take,i_]using this
    refine⟨d,?_,xC T⟩
    rw[<-add_add,hc k g];exact U
   let X:Nat->Nat->Int:=λj k=>match W.cell? (a.add (j*m+k))with|some (.int c_ d)=>d|_=>0
   have hX:∀j k,j<len->k<m->W.cell? (a.add (j*m+k))=M (.int c_ (X j k))/\aN c_ (X j k)=true:=by
    intro j k f g
    obtain⟨d,G,N⟩:=cells j k f g
    have:X j k=d:=by simp only[X];rw[G]
    rw[this];exact⟨G,N⟩
   have p:=(hX 0 0 O hm).1
   have ea:a.add (0*m+0)=a:=by simp[Addr.add]
   rw[ea]at p
   obtain⟨b,off,q⟩:=a
   have w:q=s_/\∃cs el fr,W.heap[b]? =M (.cells cs el fr):=by
    unfold World.cell? at p
    split at p
    ·rename_i c el fr I
     cases q with
     |none=>exact⟨rfl,c,el,fr,I⟩
     |some s=>simp at p
    ·cases p
   obtain⟨rfl,cs,el,fr,I⟩:=w
   have y:∀j k,j<len->k<m->cs.toList[off+(j*m+k)]? =M (.int c_ (X j k)):=by
    intro j k f g
    have:=(hX j k f g).1
    have e1:(Addr.mk b off s_).add (j*m+k)=⟨b,off+(j*m+k),s_⟩:=by
     unfold Addr.add
     by_cases E:j*m+k=0
     ·rw[if_pos E,E];rfl
     ·rw[if_neg E]
    rw[e1]at this
    simp only[World.cell?,I,y_,kH,if_false]at this
    simpa using this
   have C:off+len*m<=cs.toList.length:=by
    have:=(List.getElem?_eq_some_iff.1 (y (len-1) (m-1) O O)).1
    have e2:(len-1)*m+m=len*m:=by
     obtain⟨l,rfl⟩:∃l,len=l+1:=⟨len-1,O⟩
     rw[B_,v_]
    omega
   refine⟨len,X,?_,λj f k g=>(hX j k f g).2⟩
   simp only[VR]
   refine .inr ⟨b,off,cap,⟨b,off,s_⟩,λj=>(cs.toList.drop (off+j*m)).take m,rfl,hl,λ_=>⟨rfl,⟨?_,cs.toList.take off,cs.toList.drop (off+len*m),by rw[n_];omega,?_⟩,λj f=>?_⟩⟩
   ·intro u V
    obtain⟨j,f,V⟩:=List.mem_flatMap.1 V
    have f:=List.mem_range.1 f
    obtain⟨k,g⟩:=List.mem_iff_getElem?.1 V
    have F:k<m:=by
     have:=(List.getElem?_eq_some_iff.1 g).1
     simp at this;omega
    rw[m_ F,i_,t_,y j k f F]at g
    cases g;rfl
   ·rw[J b cs el fr I,rq C,<-E_]
    rw[C_,f_,f_]
   ·have o:((cs.toList.drop (off+j*m)).take m).length=m:=by
     have:j*m+m<=len*m:=by
      have:=Nat.mul_le_mul_right m (show j+1<=len from f)
      rw[v_]at this;exact this
     simp only[n_,List.length_drop];omega
    refine⟨o,zx o λk g=>?_⟩
    rw[m_ g,i_,t_]
    exact y j k f g
theorem zz{d:World}{a:Nat->Bool}{T:TypeId->Prop}(K:Kids P T)(f:∀{t e:TypeId},T t->P.underlying t=M (.slice e)->0<P.cellsOf e):∀{c:List TypeId}{vs:List Value}{ds:List (DataW H)}{b:List MemPlace},(∀t∈c,T t)->
  DataW.TrodAll enc P W 0 (λ_=>true) true c vs ds b->(∀p∈b,W.sameAt d p)->(∀p∈b,a p.block=true)->DataW.TrodAll enc P d 0 a true c vs ds b
 |[],[],[],_,_,h,_,_=>h
 |_::_,_::_,_::_,_,g,⟨p,q,⟨n,h1⟩,k,e⟩,i,j=>⟨p,q,⟨n,DataW.trod_stays K f (λh=>zE) (g _ (List.mem_cons.2 (.inl A))) h1 (λx hx=>i x (by rw[e];exact z_ _ hx)) (λx hx=>j x (by rw[e];exact z_ _ hx))⟩,
   zz K f (λt ht=>g t (List.mem_cons.2 (.inr ht))) k (λx hx=>i x (by rw[e];exact w_ _ hx)) (λx hx=>j x (by rw[e];exact w_ _ hx)),e⟩
theorem kU.Y6{b:World}(h:kU W b)(a:MemPlace->Prop):W.keptBut b a:=by
 refine⟨h.1,h.2.1,λi hi=>?_⟩
 rw[h.2.2 i hi]
 cases hw:W.heap[i]? with
 |none=>trivial
 |some o=>cases o<;>first|exact⟨rfl,rfl,rfl,λ_ _=>rfl⟩|exact .inr ⟨rfl,rfl⟩|rfl
theorem Ka{l:World}{f:Func}{s:ChangeSpec}{apart fresh a h:Bool}{args:Array Value}{v:Value}{ds gs:List (DataW H)}{before:List MemPlace}{T:TypeId->Prop}(K:Kids P T)(G:∀{t e:TypeId},T t->P.underlying t=M (.slice e)->0<P.cellsOf e)(I:∀t∈f.params.toList,T t)
  (c:s.vars=[]) (u:DataW.Whole enc P f.params.toList s.vars apart W args.toList ds gs before) (w:kU W l)
  (g:∀(b:Nat)(sp:Nat->Bool)(J:Bool),DataW.TrodAll enc P l b sp J f.resultTypes.toList (v.resultList f.resultTypes.size) (s.fn H (ds++gs)).results [])
  (x:(s.fn H (ds++gs)).args=ds) (y:(s.fn H (ds++gs)).vars=gs)
  (C:∀(j:Nat)(t:TypeId)(r:Value),f.resultTypes[j]? =M t->(v.resultList f.resultTypes.size)[j]? =M r->Value.okWide P l .any 0 t r):
  s.post enc P f apart fresh a h W args v l:=by
 have i:=u.lt
 have D:=u
 obtain⟨N,O,hA,F,m,E,hn⟩:=u
 rw[c]at F
 obtain⟨rfl,rfl⟩:=trodVars_none F
 rw[g_]at m
 subst m
 have d:∀sp:Nat->Bool,(∀p∈before,sp p.block=true)->DataW.TrodAll enc P l 0 sp true f.params.toList args.toList (s.fn H (ds++[])).args before:=λsp L=>by
  rw[x];exact zz K G I hA (λp k=>w.same (i p k)) L
 have n:∀sp:Nat->Bool,DataW.TrodVars enc P l sp s.vars (s.fn H (ds++[])).vars []:=λsp=>by rw[c,y];exact A
 have o:∀p∈before,(λb=>decide (b<W.heap.size)) p.block=true:=λp k=>by simpa using i p k
 refine⟨ds,[],before,[],before,[],D,g _ _ _,d _ o,n _,w.Y6 _,λ_=>?_⟩
 refine⟨C,_,_,([]++before)++[],⟨[]++before,[],trodAll_append (d _ (λ_ _=>rfl)) (g _ _ _),n _,rfl,?_,?_⟩,?_⟩
 ·intro b off k
  have q:MemPlace.cell b off∈before:=by simpa using k
  rw[w.frozen (b:=b) (off:=off) (i _ q)]
  exact E b off q
 ·intro ha
  simpa using hn ha
 ·intro p k _
  simpa using k
end
end
def HB{a:TypeDesc}{b:Value}:∀{l:List MapEntry}{j i:Nat}{v:Value},Instr.findNow a b l j=M (M (i,v))->∃x∈l,Instr.sameNow a b x.key=M true/\v=x.val
 |[],_,_,_,h=>by simp[Instr.findNow]at h
 |x::l,j,i,v,h=>by
  unfold Instr.findNow at h
  split at h
  ·rename_i c
   simp only[fE,Prod.mk.injEq]at h
   exact⟨x,a_,c,h.2.symm⟩
  ·obtain⟨y,d,e,f⟩:=HB h
   exact⟨y,z _ d,e,f⟩
  ·cases h
def RQ{b:TypeDesc}{c:Value}{n:Int}(h:Instr.sameNow b c (.int c_ n)=M true):∃q,b= .int q/\c= .int c_ n:=by
 cases b<;>cases c<;>simp[Instr.sameNow]at h
 rename_i q k a
 obtain⟨rfl,rfl⟩:=h
 exact⟨q,rfl,rfl⟩
def Gx{q:IntKind}{n:Int}{u:Value}:∀{l:List MapEntry}(_:∀x∈l,∃m,x.key= .int c_ m)(_:∀x∈l,x.key= .int c_ n->x.val=u)(j:Nat)(_:∃x∈l,x.key= .int c_ n),∃i,Instr.findNow (.int q) (.int c_ n) l j=M (M (i,u))
 |[],_,_,_,h=>by obtain⟨x,hx,_⟩:=h;cases hx
 |x::l,h1,d,j,f=>by
  obtain⟨m,b⟩:=h1 x a_
  unfold Instr.findNow
  by_cases e:n=m
  ·subst e
   rw[b]
   simp only[Instr.sameNow,if_true,beq_self_eq_true]
   exact⟨j,by rw[d x a_ b]⟩
  ·rw[b]
   have:(n==m)=false:=by simpa using e
   simp only[Instr.sameNow,if_true,this]
   refine Gx (λy a=>h1 y (z _ a)) (λy a=>d y (z _ a)) (j+1) ?_
   obtain⟨y,a,c⟩:=f
   rcases List.mem_cons.1 a with rfl|a
   ·rw[b]at c;cases c;exact absurd A e
   ·exact⟨y,a,c⟩
def F1{b ms:List MapEntry}(a:∀x∈b,x∈ms)(d:∀x∈ms,∃n,x.key= .int c_ n)(g:∀x∈ms,∀y∈ms,x.key=y.key->x.val=y.val):so b ms:=by
 intro k l i v h
 obtain⟨x,c,f,rfl⟩:=HB h
 obtain⟨n,hn⟩:=d x (a x c)
 rw[hn]at f
 obtain⟨q,rfl,rfl⟩:=RQ f
 exact Gx d (λy j e=>g y j x (a x c) (by rw[e,hn])) 0 ⟨x,a x c,hn⟩
def OS{ms:List MapEntry}{V:Nat->Value}(d:∀x∈ms,∃i:Nat,i<5/\x.key= .int c_ ((i:Int)+1)/\x.val=V i)(b:∀i:Nat,i<5->∃x∈ms,x.key= .int c_ ((i:Int)+1)):
  ∃a:List MapEntry,a.map (·.key)=[.int c_ 1,.int c_ 2,.int c_ 3,.int c_ 4,.int c_ 5]/\a.map (·.val)=[V 0,V 1,V 2,V 3,V 4]/\so a ms:=by
 have val:∀i:Nat,i<5->∀x∈ms,x.key= .int c_ ((i:Int)+1)->x.val=V i:=λi hi x hx e=>by
  obtain⟨j,_,c,f⟩:=d x hx
  rw[c]at e
  have:(j:Int)+1=(i:Int)+1:=by injection e
  have:j=i:=O
  rw[f,this]
 obtain⟨g,q,h⟩:=b 0 O
 obtain⟨k,r,k1⟩:=b 1 O
 obtain⟨l,s,k2⟩:=b 2 O
 obtain⟨m,t,n⟩:=b 3 O
 obtain⟨o,u,p⟩:=b 4 O
 refine⟨[g,k,l,m,o],?_,?_,F1 (λx hx=>?_) (λx hx=>?_) λx hx y v e=>?_⟩
 ·simp only[l_,r_,h,k1,k2,n,p];rfl
 ·simp only[l_,r_,val 0 O g q h,val 1 O k r k1,val 2 O l s k2,val 3 O m t n,val 4 O o u p]
 ·simp only[p_,o_,or_false]at hx
  rcases hx with rfl|rfl|rfl|rfl|rfl<;>assumption
 ·obtain⟨i,_,c,_⟩:=d x hx
  exact⟨_,c⟩
 ·obtain⟨i,hi,c,f⟩:=d x hx
  rw[f,val i hi y v (by rw[<-e,c])]
section
open Go.WideShapes
def pN{P:Program}{k:TypeId}(a:P.underlying k=M (.int c_)){v:Value}{n:Int}(h:keyOf P k v=M (.int c_ n)):v= .int c_ n:=by
 unfold keyOf at h
 rw[a]at h
 unfold mapKey at h
 rw[a]at h
 cases v<;>simp at h
 obtain⟨⟨rfl,_⟩,rfl⟩:=h
 rfl
def xD{P:Program}{W:World}{e:TypeId}{i:Field}{w rs:Array TypeId}{x:Bool}{n:Nat}{sp:Nat->Bool}{v:Value}{a:DataW (List UInt8)×List MemPlace}{b:UInt8}{r:List UInt8}{f:FuncId}
  (t:P.underlying e=M (.struct #[i])) (y:i.offset=0) (l:P.cellsOf e=1) (o:P.cellsOf i.type=1) (C:P.underlying i.type=M (.func w rs x))
  (j:((b_ P.funcs.size).filter λf=>(P.funcs[f]?).any (·.name.toUTF8.data.toList==b::r))=[f])
  (h:WideElems.elemAt (funcToken P) P W 0 sp true n e v=M a) (g:a.1= .agg [.held (b::r)]):v= .agg #[.func (.func f) #[] #[]]:=by
 unfold WideElems.elemAt at h
 split at h
 ·rename_i d
  obtain⟨D,m,_,hx,hl,p,q⟩:=DataW.trod_struct t h
  rw[hx]at g
  simp only[DataW.agg.injEq]at g
  match D,p,g with
  |[E],_,g=>
   simp only[l_,r_,List.cons.injEq,and_true]at g
   have k:=q 0 i A
   rw[y,o,j_]at k
   rw[l]at hl
   obtain⟨c,u⟩:∃c,v.cells.toList=[c]:=by
    match F:v.cells.toList,hl with
    |[c],_=>exact⟨c,rfl⟩
   rw[u]at k
   simp only[e_,k_,d_]at k
   obtain⟨G,H⟩:=E
   simp only at g
   subst g
   have s:=func_of_trod C j k
   subst s
   unfold Value.formed at d
   cases v with
   |agg cs=>
    have:cs= #[.func (.func f) #[] #[]]:=by
     apply q_
     exact u
    rw[this]
   |_=>simp[t]at d
 ·cases h
def Kb{P:Program}{W:World}{t k e:TypeId}{G:Field}{K rs:Array TypeId}{L:Bool}{fuel:Nat}{cs:List Value}{p:List MemPlace}{N:Nat->UInt8×List UInt8}{F:Nat->FuncId}
  (ht:P.underlying t=M (.map k e)) (r:P.underlying k=M (.int c_)) (s:P.underlying e=M (.struct #[G])) (u:G.offset=0) (l:P.cellsOf e=1) (m:P.cellsOf G.type=1) (v:P.underlying G.type=M (.func K rs L))
  (c:∀i,i<5->((b_ P.funcs.size).filter λf=>(P.funcs[f]?).any (·.name.toUTF8.data.toList==(N i).1::(N i).2))=[F i])
  (h:DataW.trod (funcToken P) P W 0 (λ_=>true) true fuel t cs=M (.map [(.int c_ 1,.agg [.held ((N 0).1::(N 0).2)]),(.int c_ 2,.agg [.held ((N 1).1::(N 1).2)]),(.int c_ 3,.agg [.held ((N 2).1::(N 2).2)]),(.int c_ 4,.agg [.held ((N 3).1::(N 3).2)]),(.int c_ 5,.agg [.held ((N 4).1::(N 4).2)])],p)):
  ∃b ms j,cs=[.map (M b)]/\W.heap[b]? =M (.map ms j)/\(∀x∈ms.toList,∃i:Nat,i<5/\x.key= .int c_ ((i:Int)+1)/\x.val= .agg #[.func (.func (F i)) #[] #[]])/\∀i:Nat,i<5->∃x∈ms.toList,x.key= .int c_ ((i:Int)+1):=by
 rcases WideElems.open_map ht h with⟨_,hx⟩|⟨b,es,j,n,_,I,Q,_,fit,hx⟩
 ·simp at hx
 ·simp only[Prod.mk.injEq,DataW.map.injEq]at hx
  obtain⟨hL,_⟩:=hx
  have perm:=sorted_perm (es.toList.map (WideElems.rg P k (WideElems.elemAt (funcToken P) P W 0 (λ_=>true) true n e)))
  rw[<-hL]at perm
  refine⟨b,es,j,I,Q,λx hx=>?_,λi hi=>?_⟩
  ·obtain⟨y,w⟩:=fit.reads x hx
   have H:=perm.mem_iff.2 (List.mem_map.2 ⟨x,hx,WideElems.rg_of w⟩)
   obtain⟨a,C,o⟩:=WideElems.rd_val w
   have g:=WideElems.rd_key w
   simp only[p_,o_,or_false]at H
   rcases H with rfl|rfl|rfl|rfl|rfl
   ·exact⟨0,O,pN r g,xD s u l m v (c 0 O) C o.symm⟩
   ·exact⟨1,O,pN r g,xD s u l m v (c 1 O) C o.symm⟩
   ·exact⟨2,O,pN r g,xD s u l m v (c 2 O) C o.symm⟩
   ·exact⟨3,O,pN r g,xD s u l m v (c 3 O) C o.symm⟩
   ·exact⟨4,O,pN r g,xD s u l m v (c 4 O) C o.symm⟩
  ·have back:∀y∈[((.int c_ 1:Lit),(.agg [.held ((N 0).1::(N 0).2)]:DataW (List UInt8))),(.int c_ 2,.agg [.held ((N 1).1::(N 1).2)]),(.int c_ 3,.agg [.held ((N 2).1::(N 2).2)]),(.int c_ 4,.agg [.held ((N 3).1::(N 3).2)]),(.int c_ 5,.agg [.held ((N 4).1::(N 4).2)])],∃x∈es.toList,keyOf P k x.key=M y.1:=λy w=>by
    obtain⟨x,hx,D⟩:=List.mem_map.1 (perm.mem_iff.1 w)
    obtain⟨R,E⟩:=fit.reads x hx
    rw[WideElems.rg_of E]at D
    subst D
    exact⟨x,hx,WideElems.rd_key E⟩
   have q:∀n d,((.int c_ n:Lit),(d:DataW (List UInt8)))∈[((.int c_ 1:Lit),(.agg [.held ((N 0).1::(N 0).2)]:DataW (List UInt8))),(.int c_ 2,.agg [.held ((N 1).1::(N 1).2)]),(.int c_ 3,.agg [.held ((N 2).1::(N 2).2)]),(.int c_ 4,.agg [.held ((N 3).1::(N 3).2)]),(.int c_ 5,.agg [.held ((N 4).1::(N 4).2)])]->∃x∈es.toList,x.key= .int c_ n:=λn d H=>by
    obtain⟨x,hx,J⟩:=back _ H
    exact⟨x,hx,pN r J⟩
   match i,hi with
   |0,_=>exact q 1 (.agg [.held ((N 0).1::(N 0).2)]) zA
   |1,_=>exact q 2 (.agg [.held ((N 1).1::(N 1).2)]) zA
   |2,_=>exact q 3 (.agg [.held ((N 2).1::(N 2).2)]) zA
   |3,_=>exact q 4 (.agg [.held ((N 3).1::(N 3).2)]) zA
   |4,_=>exact q 5 (.agg [.held ((N 4).1::(N 4).2)]) zA
   |i+5,h=>exact absurd h O
end
section
open Go.Deep
def Gy{ρ:Env}{W:World}{a:Addr}{len cap m:Nat}{f:Nat->List AV}(C:xB ρ W)(I:0<m)(hl:len<=cap)
  (g:∀j,j<len->∃us:List Value,us.length=m/\(∀u∈us,u.oneCell'=true)/\aU ρ.bare (f j) us/\∀k,k<m->W.cell? (a.add (j*m+k))=us[k]?):VR ρ (.ab len m f) (.slice (M a) len cap):=by
 by_cases p:len=0
 ·subst p
  simp only[VR]
  exact .inr ⟨0,0,cap,a,λ_=>[],rfl,hl,λh=>absurd h (HD _)⟩
 ·obtain⟨D,N,_,_,c0⟩:=g 0 O
  have d:=c0 0 I
  have J:a.add (0*m+0)=a:=by simp[Addr.add]
  rw[J]at d
  obtain⟨b,off,i⟩:=a
  have n:i=s_/\∃cs el fr,W.heap[b]? =M (.cells cs el fr):=by
   have e:D[0]? ≠s_:=by rw[mo O];exactλh=>zE
   unfold World.cell? at d
   split at d
   ·rename_i c el fr w
    cases i with
    |none=>exact⟨rfl,c,el,fr,w⟩
    |some s=>simp at d;exact absurd d.symm (by simpa using e)
   ·exact absurd d.symm e
  obtain⟨rfl,cs,el,fr,w⟩:=n
  have K:∀q,(Addr.mk b off s_).add q=⟨b,off+q,s_⟩:=λq=>by
   unfold Addr.add
   by_cases p:q=0
   ·rw[if_pos p,p];rfl
   ·rw[if_neg p]
  have row:∀j,j<len->∃us:List Value,us.length=m/\(∀u∈us,u.oneCell'=true)/\aU ρ.bare (f j) us/\off+j*m+m<=cs.toList.length/\(cs.toList.drop (off+j*m)).take m=us:=by
   intro j r
   obtain⟨us,E,F,G,L⟩:=g j r
   have t:∀k,k<m->cs.toList[off+j*m+k]? =us[k]? :=λk x=>by
    have:=L k x
    rw[K]at this
    simp only[World.cell?,w,y_,kH,if_false]at this
    rw[<-this,t_]
    simp
   have o:off+j*m+m<=cs.toList.length:=by
    have:=t (m-1) O
    rw[mo (O:m-1<us.length)]at this
    have:=(List.getElem?_eq_some_iff.1 this).1
    omega
   refine⟨us,E,F,G,o,?_⟩
   apply List.ext_getElem?
   intro k
   by_cases x:k<m
   ·rw[m_ x,i_,t k x]
   ·rw[x_ (by rw[n_];omega),x_ O]
  have v:off+len*m<=cs.toList.length:=by
   obtain⟨_,_,_,_,h,_⟩:=row (len-1) O
   have P:(len-1)*m+m=len*m:=by
    obtain⟨l,rfl⟩:∃l,len=l+1:=⟨len-1,O⟩
    rw[B_,v_]
   omega
  simp only[VR]
  refine .inr ⟨b,off,cap,⟨b,off,s_⟩,λj=>(cs.toList.drop (off+j*m)).take m,rfl,hl,λ_=>⟨rfl,⟨?_,cs.toList.take off,cs.toList.drop (off+len*m),by rw[n_];omega,?_⟩,λj r=>?_⟩⟩
  ·intro u y
   obtain⟨j,r,y⟩:=List.mem_flatMap.1 y
   obtain⟨us,_,F,_,_,H⟩:=row j (List.mem_range.1 r)
   simp only[H]at y
   exact F u y
  ·rw[C b cs el fr w,rq v,<-E_]
   rw[C_,f_,f_]
  ·obtain⟨us,E,_,G,_,H⟩:=row j r
   simp only[H]
   exact⟨E,G⟩
def F2{H:Type}{enc:TypeId×Value->H}{P:Program}{W:World}{sp:Nat->Bool}{held:Bool}{fuel:Nat}{t:TypeId}{c:Value}{s:List UInt8}{p:List MemPlace}(ht:P.underlying t=M .string)
  (h:DataW.trod enc P W 0 sp held fuel t [c]=M (.lit (.string s),p)):c= .string ⟨s.toArray⟩:=by
 obtain⟨b,a,d,_⟩:=DataW.trod_string ht h
 simp only[Prod.mk.injEq,DataW.lit.injEq,Lit.string.injEq]at d
 simp only[List.cons.injEq,and_true]at a
 rw[a,d.1]
def U0{H:Type}{enc:TypeId×Value->H}{P:Program}{W:World}{sp:Nat->Bool}{held:Bool}{fuel:Nat}{t:TypeId}{a rs:Array TypeId}{b:Bool}{c:Value}{p:List MemPlace}(ht:P.underlying t=M (.func a rs b))
  (h:DataW.trod enc P W 0 sp held fuel t [c]=M (.nil,p)):c= .nilFunc:=by
 cases fuel with
 |zero=>simp[DataW.trod]at h
 |succ n=>cases c<;>simp[DataW.trod,ht]at h<;>rfl
def Sm{ρ:Env}{P:Program}{W:World}{e:TypeId}{a f1:Field}{sp:Nat->Bool}{fuel:Nat}{cs:List Value}{x:DataW (List UInt8)×List MemPlace}{j d1:DataW (List UInt8)}{a0 a1:AV}(q:P.underlying e=M (.struct #[a,f1]))(r:a.offset=0)(s:f1.offset=1)(c0:P.cellsOf a.type=1)(t:P.cellsOf f1.type=1)(v:P.cellsOf e=2)
  (h:DataW.trod (funcToken P) P W 0 sp true fuel e cs=M x) (hx:x.1= .agg [j,d1])
  (w:∀n c p,DataW.trod (funcToken P) P W 0 sp true n a.type [c]=M (j,p)->VR ρ a0 c/\c.oneCell'=true) (y:∀n c p,DataW.trod (funcToken P) P W 0 sp true n f1.type [c]=M (d1,p)->VR ρ a1 c/\c.oneCell'=true):
  ∃us:List Value,cs=us/\us.length=2/\(∀u∈us,u.oneCell'=true)/\aU ρ [a0,a1] us:=by
 obtain⟨C,n,_,d,hl,f,b⟩:=DataW.trod_struct q h
 rw[d]at hx
 simp only[DataW.agg.injEq]at hx
 rw[v]at hl
 match C,f,hx with
 |[k,l],_,hx=>
  match cs,hl with
  |[m,g],_=>
   simp only[l_,r_,List.cons.injEq,and_true]at hx
   have i:=b 0 a A
   have g1:=b 1 f1 A
   rw[r,c0]at i
   rw[s,t]at g1
   simp only[j_,e_,k_,d_]at i
   simp only[A_,j_,e_,k_,u_,d_]at g1
   obtain⟨k,p0⟩:=k
   obtain⟨l,F⟩:=l
   obtain⟨rfl,rfl⟩:=hx
   obtain⟨k1,k2⟩:=w _ _ _ i
   obtain⟨D,E⟩:=y _ _ _ g1
   refine⟨[m,g],rfl,rfl,λu o=>?_,⟨m,[g],rfl,k1,g,[],rfl,D,rfl⟩⟩
   simp only[p_,o_,or_false]at o
   rcases o with rfl|rfl
   ·exact k2
   ·exact E
def HC{ρ:Env}{f:FuncId}{c:Value}(h:c= .func (.func f) #[] #[]):VR ρ (.fn f [] []) c/\c.oneCell'=true:=by
 subst h
 refine⟨?_,rfl⟩
 simp only[VR]
 exact⟨[],[],rfl,rfl,rfl⟩
def Yl{ρ:Env}{s:List UInt8}{c:Value}(h:c= .string ⟨s.toArray⟩):VR ρ (.str s) c/\c.oneCell'=true:=by
 subst h
 exact⟨zB,rfl⟩
end
section
open Go.Deep Go.Proofs
open Go.Proofs.YtoijalagmmgkbaaGreatDoor (Rows.answerContainsRow)
def si{P:Program}{W:World}{n:String}{d:DataW Unit}:∀{l:List (String×DataW Unit)}{a:List MemPlace},DataW.LaidVars P W l a->(n,d)∈l->
  ∃g t cs fuel p,P.globalNamed n=M g/\(P.globals[g]?).map (·.type)=M t/\W.var? P n=M cs/\DataW.trod (λ_=>()) P W 0 (λ_=>true) false fuel t cs.toList=M (d,p)
 |[],_,_,h=>zE
 |(j,k)::l,_,⟨g,t,cs,fuel,p,q,h1,b,c,f,i,_⟩,h=>by
  rcases List.mem_cons.1 h with e|h
  ·cases e;exact⟨g,t,cs,fuel,p,h1,b,c,f⟩
  ·exact si i h
def sj{P:Program}{W:World}{l:List (String×DataW Unit)}(hL:laidMetH P l W){n:String}{d:DataW Unit}(a:(n,d)∈l)(b:d.handleName?.isNone=true):
  ∃g t cs fuel p,P.globalNamed n=M g/\(P.globals[g]?).map (·.type)=M t/\W.var? P n=M cs/\DataW.trod (λ_=>()) P W 0 (λ_=>true) false fuel t cs.toList=M (d,p):=by
 obtain⟨⟨c,h,_⟩,_⟩:=laidMetH_iff.1 hL
 exact si h (List.mem_filter.2 ⟨a,b⟩)
def nY{P:Program}{W:World}{n:String}{g:Nat}{cs:Array Value}(a:P.globalNamed n=M g)(h:W.var? P n=M cs):∃el fr,W.heap[g]? =M (.cells cs el fr):=by
 simp only[World.var?,a,Option.bind_some]at h
 split at h
 ·rename_i c el fr b
  cases h
  exact⟨el,fr,b⟩
 ·cases h
def OT{cs:Array Value}{v:Value}(h:cs.toList=[v]):cs= #[v]:=by
 apply q_;exact h
def Xb:PP.globalNamed "latecomer/answer.zero" =M 0:=U
def Ym:PP.globalNamed "latecomer/query.operators" =M 1:=U
def Xc:PP.globalNamed "latecomer/answer.aggregates" =M 2:=U
def Yn:PP.globalNamed "latecomer/sketch.limits" =M 3:=U
def Y7:PP.globalNamed "latecomer/estimate.zero" =M 4:=U
def Y8:PP.globalNamed "latecomer/estimate.one" =M 5:=U
def Yo:PP.globalNamed "internal/strconv.uint64pow10" =M 8:=U
def Yp:PP.globals.toList.map (·.type)=[30,149,179,202,30,30,211,211,354,3,356,359,362,363]:=U
def F3(g:Nat)(t:TypeId)(h:([30,149,179,202,30,30,211,211,354,3,356,359,362,363]:List TypeId)[g]? =M t):(PP.globals[g]?).map (·.type)=M t:=by
 rw[<-h,<-Yp,D_,Array.getElem?_toList]
def c3:PP.cellsOf 3=1:=U
def c9:PP.cellsOf 9=1:=U
def c146:PP.cellsOf 146=1:=U
def Yq:PP.cellsOf 100=1:=U
def Yr:PP.cellsOf 178=1:=U
def Ys:PP.cellsOf 261=1:=U
def c148:PP.cellsOf 148=2:=U
def Y9:PP.cellsOf 30=2:=U
def Yt:PP.cellsOf 202=4:=U
def Za:PP.cellsOf 84=6:=U
def c127:PP.cellsOf 127=3:=U
def c24:PP.cellsOf 24=4:=U
def Zb:PP.cellsOf 22=1:=U
def Yu:PP.cellsOf 354=20:=U
def di(c:UInt8):UInt8×List UInt8:=(108,[97,116,101,99,111,109,101,114,47,113,117,101,114,121,46,111,112,101,114,97,116,111,114,115,36,c])
def ig(i:Nat):UInt8×List UInt8:=(108,[97,116,101,99,111,109,101,114,47,97,110,115,119,101,114,46,97,103,103,114,101,103,97,116,101,115,36,match i with|0=>49|1=>50|2=>51|3=>52|_=>53])
def uv(i:Nat):FuncId:=match i with|0=>335|1=>337|2=>339|3=>340|_=>341
def Xd:((b_ PP.funcs.size).filter λf=>(PP.funcs[f]?).any (·.name.toUTF8.data.toList==(di 49).1::(di 49).2))=[331]:=U
def Xe:((b_ PP.funcs.size).filter λf=>(PP.funcs[f]?).any (·.name.toUTF8.data.toList==(di 50).1::(di 50).2))=[332]:=U
def Xf:((b_ PP.funcs.size).filter λf=>(PP.funcs[f]?).any (·.name.toUTF8.data.toList==(di 51).1::(di 51).2))=[333]:=U
def Xg:((b_ PP.funcs.size).filter λf=>(PP.funcs[f]?).any (·.name.toUTF8.data.toList==(di 52).1::(di 52).2))=[334]:=U
def RR:((b_ PP.funcs.size).filter λf=>(PP.funcs[f]?).any (·.name.toUTF8.data.toList==(ig 0).1::(ig 0).2))=[uv 0]:=U
def RS:((b_ PP.funcs.size).filter λf=>(PP.funcs[f]?).any (·.name.toUTF8.data.toList==(ig 1).1::(ig 1).2))=[uv 1]:=U
def RT:((b_ PP.funcs.size).filter λf=>(PP.funcs[f]?).any (·.name.toUTF8.data.toList==(ig 2).1::(ig 2).2))=[uv 2]:=U
def RU:((b_ PP.funcs.size).filter λf=>(PP.funcs[f]?).any (·.name.toUTF8.data.toList==(ig 3).1::(ig 3).2))=[uv 3]:=U
def RV:((b_ PP.funcs.size).filter λf=>(PP.funcs[f]?).any (·.name.toUTF8.data.toList==(ig 4).1::(ig 4).2))=[uv 4]:=U
def U2(i:Nat)(hi:i<5):((b_ PP.funcs.size).filter λf=>(PP.funcs[f]?).any (·.name.toUTF8.data.toList==(ig i).1::(ig i).2))=[uv i]:=by
 match i,hi with
 |0,_=>exact RR
 |1,_=>exact RS
 |2,_=>exact RT
 |3,_=>exact RU
 |4,_=>exact RV
 |i+5,h=>exact absurd h O
end
section
open Go.Deep Go.Proofs
open Go.Proofs.YtoijalagmmgkbaaGreatDoor (Rows.answerContainsRow)
def Kc{W:World}(hL:laidMetH PP Rows.answerContainsRow.laid W):∃b el fr ms a,W.heap[2]? =M (.cells #[.map (M b)] el fr)/\W.heap[b]? =M (.map ms a)/\∀ρ,r9 ρ lS ms.toList:=by
 obtain⟨g,t,cs,fuel,p,j,ht,l,m⟩:=hL.funcs (n := "latecomer/answer.aggregates") (d:=_) (by
  show _∈[_,_,_,_,_,_,_,_,_,_,_,_,_]
  iterate 11 apply z
  exact a_)
 obtain rfl:=Option.some.inj (Xc.symm.trans j)
 obtain rfl:=Option.some.inj ((F3 2 _ rfl).symm.trans ht)
 obtain⟨b,ms,a,c,o,q,r⟩:=Kb (N:=ig) (F:=uv) Tryz.underlying179 Tryz.underlying3 Tryz.underlying178 rfl Yr Yq Tryz.underlying100 U2 (h:=m)
 obtain⟨el,fr,k⟩:=nY j l
 rw[OT c]at k
 refine⟨b,el,fr,ms,a,k,o,λρ=>?_⟩
 obtain⟨e,k1,k2,s⟩:=OS (V:=λi=> .agg #[.func (.func (uv i)) #[] #[]]) q r
 have fn:∀f,VR ρ (.agg [.fn f [] []]) (.agg #[.func (.func f) #[] #[]]):=λf=>by
  simp only[VR]
  exact⟨[.func (.func f) #[] #[]],rfl,aU.aL.2 ⟨by simp only[VR];exact⟨[],[],rfl,rfl,rfl⟩,rfl⟩⟩
 refine⟨e,?_,?_,(λh=>zE),s⟩
 ·rw[k1]
  have i:∀n,VR ρ (.int c_ n) (.int c_ n):=λn=>zB
  exact aU.aL.2 ⟨i 1,aU.aL.2 ⟨i 2,aU.aL.2 ⟨i 3,aU.aL.2 ⟨i 4,aU.aL.2 ⟨i 5,rfl⟩⟩⟩⟩⟩
 ·rw[k2]
  exact aU.aL.2 ⟨fn 335,aU.aL.2 ⟨fn 337,aU.aL.2 ⟨fn 339,aU.aL.2 ⟨fn 340,aU.aL.2 ⟨fn 341,rfl⟩⟩⟩⟩⟩
def Ds{W:World}{cs:Array Value}{fuel:Nat}{p:List MemPlace}{a b:List UInt8}(l:DataW.trod (λ_=>()) PP W 0 (λ_=>true) false fuel 30 cs.toList=M (.agg [.lit (.string a),.lit (.string b)],p)):cs= #[.string ⟨a.toArray⟩,.string ⟨b.toArray⟩]:=by
 obtain⟨m,n,_,hx,hl,h,d⟩:=DataW.trod_struct Tryz.underlying30 l
 have hl:cs.toList.length=2:=hl.trans Y9
 simp only[Prod.mk.injEq]at hx
 obtain⟨hx,_⟩:=hx
 match m,h,hx with
 |[f,g],_,hx=>
  match c:cs.toList,hl with
  |[j,k],_=>
   have i:DataW.trod (λ_=>()) Tryz.prog W 0 (λ_=>true) false n 9 (([j,k].drop 0).take (Tryz.prog.cellsOf 9))=M f:=by have:=d 0 _ A;rw[c]at this;exact this
   have g1:DataW.trod (λ_=>()) Tryz.prog W 0 (λ_=>true) false n 9 (([j,k].drop 1).take (Tryz.prog.cellsOf 9))=M g:=by have:=d 1 _ A;rw[c]at this;exact this
   rw[show Tryz.prog.cellsOf 9=1 from c9]at i g1
   simp only[j_,e_,k_,d_]at i
   simp only[A_,j_,e_,k_,u_,d_]at g1
   obtain⟨f,p0⟩:=f
   obtain⟨g,r⟩:=g
   have e:([.lit (.string a),.lit (.string b)]:List (DataW Unit))=[f,g]:=by injection hx
   simp only[List.cons.injEq,and_true]at e
   obtain⟨rfl,rfl⟩:=e
   have o:=F2 Tryz.underlying9 i
   have q:=F2 Tryz.underlying9 g1
   subst o q
   apply q_
   exact c
def Kd{W:World}(hL:laidMetH PP Rows.answerContainsRow.laid W):∃el fr,W.heap[0]? =M (.cells #[.string ⟨[48].toArray⟩,.string ⟨[49].toArray⟩] el fr):=by
 obtain⟨g,t,cs,fuel,p,a,ht,c,e⟩:=sj hL (n := "latecomer/answer.zero") (d:=_) (by
  show _∈[_,_,_,_,_,_,_,_,_,_,_,_,_]
  iterate 10 apply z
  exact a_) A
 obtain rfl:=Option.some.inj (Xb.symm.trans a)
 obtain rfl:=Option.some.inj ((F3 0 _ rfl).symm.trans ht)
 obtain⟨el,fr,b⟩:=nY a c
 rw[Ds e]at b
 exact⟨el,fr,b⟩
def RW{W:World}(hL:laidMetH PP Rows.answerContainsRow.laid W):∃el fr,W.heap[4]? =M (.cells #[.string ⟨[48].toArray⟩,.string ⟨[49].toArray⟩] el fr):=by
 obtain⟨g,t,cs,fuel,p,a,ht,c,e⟩:=sj hL (n := "latecomer/estimate.zero") (d:=_) (by
  show _∈[_,_,_,_,_,_,_,_,_,_,_,_,_]
  iterate 6 apply z
  exact a_) A
 obtain rfl:=Option.some.inj (Y7.symm.trans a)
 obtain rfl:=Option.some.inj ((F3 4 _ rfl).symm.trans ht)
 obtain⟨el,fr,b⟩:=nY a c
 rw[Ds e]at b
 exact⟨el,fr,b⟩
def RX{W:World}(hL:laidMetH PP Rows.answerContainsRow.laid W):∃el fr,W.heap[5]? =M (.cells #[.string ⟨[49].toArray⟩,.string ⟨[49].toArray⟩] el fr):=by
 obtain⟨g,t,cs,fuel,p,a,ht,c,e⟩:=sj hL (n := "latecomer/estimate.one") (d:=_) (by
  show _∈[_,_,_,_,_,_,_,_,_,_,_,_,_]
  iterate 7 apply z
  exact a_) A
 obtain rfl:=Option.some.inj (Y8.symm.trans a)
 obtain rfl:=Option.some.inj ((F3 5 _ rfl).symm.trans ht)
 obtain⟨el,fr,b⟩:=nY a c
 rw[Ds e]at b
 exact⟨el,fr,b⟩
def OU{W:World}(hL:laidMetH PP Rows.answerContainsRow.laid W):∃el fr,W.heap[3]? =M (.cells (([7,9,11,99]).map λa=>h_ c_ a).toArray el fr):=by
 obtain⟨g,t,cs,fuel,p,b,ht,c,e⟩:=sj hL (n := "latecomer/sketch.limits") (d:=_) (by
  show _∈[_,_,_,_,_,_,_,_,_,_,_,_,_]
  iterate 9 apply z
  exact a_) A
 obtain rfl:=Option.some.inj (Yn.symm.trans b)
 obtain rfl:=Option.some.inj ((F3 3 _ rfl).symm.trans ht)
 obtain⟨el,fr,f⟩:=nY b c
 have:=Lib.cells_of_tab (k:=.i64) (zs:=[7,9,11,99]) Tryz.underlying202 Tryz.underlying3 c3 Yt e
 refine⟨el,fr,?_⟩
 rw[f]
 congr 2
 apply q_
 rw[this]
def OV{W:World}(hL:laidMetH PP Rows.answerContainsRow.laid W):∃el fr,W.heap[8]? =M (.cells ((Lib.pow10Tab).map λa=>h_ .u64 a).toArray el fr):=by
 obtain⟨g,t,cs,fuel,p,b,ht,c,e⟩:=sj hL (n := "internal/strconv.uint64pow10") (d:=_) (by
  show _∈[_,_,_,_,_,_,_,_,_,_,_,_,_]
  iterate 2 apply z
  exact a_) A
 obtain rfl:=Option.some.inj (Yo.symm.trans b)
 obtain rfl:=Option.some.inj ((F3 8 _ rfl).symm.trans ht)
 obtain⟨el,fr,f⟩:=nY b c
 have:=Lib.cells_of_tab (k:=.u64) (zs:=Lib.pow10Tab) Tryz.underlying354 Tryz.underlying261 Ys Yu e
 refine⟨el,fr,?_⟩
 rw[f]
 congr 2
 apply q_
 rw[this]
def OW{ρ:Env}{W:World}(o:xB ρ W)(hL:laidMetH PP Rows.answerContainsRow.laid W):∃v el fr,W.heap[1]? =M (.cells #[v] el fr)/\VR ρ (.ab 5 2 aA) v/\v.oneCell'=true:=by
 obtain⟨g,t,cs,fuel,p,C,ht,I,J⟩:=hL.funcs (n := "latecomer/query.operators") (d:=_) (by
  show _∈[_,_,_,_,_,_,_,_,_,_,_,_,_]
  iterate 8 apply z
  exact a_)
 obtain rfl:=Option.some.inj (Ym.symm.trans C)
 obtain rfl:=Option.some.inj ((F3 1 _ rfl).symm.trans ht)
 obtain⟨el,fr,E⟩:=nY C I
 rcases open_slice Tryz.underlying149 J with⟨_,hx⟩|⟨a,len,cap,m,n,D,U,q,_,hl,_,hm,hx,r⟩
 ·exact absurd hx (λe=>zG)
 rw[OT q]at E
 refine⟨_,el,fr,E,?_,rfl⟩
 simp only[Prod.mk.injEq]at hx
 have w:DataW.slice [.agg [.lit (.string []),.nil],.agg [.lit (.string [61]),.held ((di 49).1::(di 49).2)],.agg [.lit (.string [33,61]),.held ((di 50).1::(di 50).2)],.agg [.lit (.string [60]),.held ((di 51).1::(di 51).2)],.agg [.lit (.string [62,61]),.held ((di 52).1::(di 52).2)]] []=DataW.slice ((b_ len).map D) ((b_ (m-len)).map λj=>D (len+j)):=hx.1
 have i:[.agg [.lit (.string []),.nil],.agg [.lit (.string [61]),.held ((di 49).1::(di 49).2)],.agg [.lit (.string [33,61]),.held ((di 50).1::(di 50).2)],.agg [.lit (.string [60]),.held ((di 51).1::(di 51).2)],.agg [.lit (.string [62,61]),.held ((di 52).1::(di 52).2)]]=(b_ len).map D:=by injection w
 have K:len=5:=by have:=congrArg List.length i;simpa using this.symm
 subst K
 have b:∀j d,[.agg [.lit (.string []),.nil],.agg [.lit (.string [61]),.held ((di 49).1::(di 49).2)],.agg [.lit (.string [33,61]),.held ((di 50).1::(di 50).2)],.agg [.lit (.string [60]),.held ((di 51).1::(di 51).2)],.agg [.lit (.string [62,61]),.held ((di 52).1::(di 52).2)]][j]? =M d->j<5->D j=d:=λj d h x=>by
  rw[i,D_,List.getElem?_range x]at h
  exact Option.some.inj h
 have L:5<=m:=by rw[hm];split<;>omega
 have F:PP.cellsOf 148=2:=c148
 have str:∀s n c p,DataW.trod (funcToken PP) PP W 0 (λ_=>true) true n 9 [c]=M (.lit (.string s),p)->VR ρ.bare (.str s) c/\c.oneCell'=true:=λs n c p h=>Yl (F2 Tryz.underlying9 h)
 refine Gy o O hl λj x=>?_
 obtain⟨l,G,N⟩:=r j O
 rw[F]at G
 obtain⟨_,H,P⟩:=World.cells?_some G
 have cells:∀k,k<2->W.cell? (a.add (j*2+k))=l[k]? :=λk Q=>by
  have:=P k Q
  rw[<-add_add];exact this
 have f:∀y d1 a0 a1,D j= .agg [y,d1]->aA j=[a0,a1]->(∀n c p,DataW.trod (funcToken PP) PP W 0 (λ_=>true) true n 9 [c]=M (y,p)->VR ρ.bare a0 c/\c.oneCell'=true)->(∀n c p,DataW.trod (funcToken PP) PP W 0 (λ_=>true) true n 146 [c]=M (d1,p)->VR ρ.bare a1 c/\c.oneCell'=true)->
   ∃us:List Value,us.length=2/\(∀u∈us,u.oneCell'=true)/\aU ρ.bare (aA j) us/\∀k,k<2->W.cell? (a.add (j*2+k))=us[k]? :=λy d1 a0 a1 R S T k1=>by
  obtain⟨us,rfl,g1,g2,g3⟩:=Sm (ρ:=ρ.bare) (a0:=a0) (a1:=a1) Tryz.underlying148 rfl rfl c9 c146 F N R T k1
  exact⟨l,g1,g2,by rw[S];exact g3,cells⟩
 match j,x with
 |0,_=>exact f _ _ _ _ (b 0 _ A O) A (str []) λn c p h=>by rw[U0 Tryz.underlying146 h];exact⟨zB,rfl⟩
 |1,_=>exact f _ _ _ _ (b 1 _ A O) A (str [61]) λn c p h=>HC (func_of_trod Tryz.underlying146 Xd h)
 |2,_=>exact f _ _ _ _ (b 2 _ A O) A (str [33,61]) λn c p h=>HC (func_of_trod Tryz.underlying146 Xe h)
 |3,_=>exact f _ _ _ _ (b 3 _ A O) A (str [60]) λn c p h=>HC (func_of_trod Tryz.underlying146 Xf h)
 |4,_=>exact f _ _ _ _ (b 4 _ A O) A (str [62,61]) λn c p h=>HC (func_of_trod Tryz.underlying146 Xg h)
 |j+5,h=>exact absurd h O
end
section
open Go.Deep Go.ChangeShapes Go.WideShapes
def sk(W:World)(b:Nat):Env where
 pl l:=if l<12 then M (ux l,match W.heap[ux l]? with|some (.cells cs _ _)=>cs.size|_=>0)else if l=13 then M (b,0)else s_
 fz k:=match W.heap[k]? with|some (.cells cs _ _)=>M cs.toList|_=>s_
def DD(W:World)(b:Nat):xB (sk W b) W:=λk cs el fr h=>by
 show(match W.heap[k]? with|some (.cells cs _ _)=>M cs.toList|_=>s_)=_
 rw[h]
def OX(W:World)(b:Nat):fw where
 w0:=W
 Z k:=k<W.heap.size
 G:=12
 X _:=False
 E _:=False
 DI:=sk W b
def OY(l:Nat):(Hm.get l).rw=false:=sh (P:=λ_ b=>b.rw=false) A A A A A A A A (λ_=>rfl) l
def nh{ρ:Env}{W:World}(b:xB ρ W){l g:Nat}{cs:Array Value}{el:TypeId}{fr:Nat×Nat}{a:List AV}(h:W.heap[g]? =M (.cells cs el fr))(c:ρ l=M (g,cs.size))(d:aU ρ a cs.toList)(f:∀v∈cs.toList,v.oneCell'=true):aJ ρ W (ρ l) a .ro:=by
 refine .inr ⟨g,cs.size,cs.toList,[],el,fr,c,?_,zA,d,⟨(λe=>zG),(λ_ e=>zG),(λ_ e=>zG)⟩,f,λ_=>?_⟩
 ·rw[g_];exact h
 ·rw[g_];exact b g cs el fr h
def Bp(ρ:Env)(k:IntKind):∀l:List Int,aU ρ (l.map λa=>AV.int k a) (l.map λa=>h_ k a)
 |[]=>rfl
 |_::l=>aU.aL.2 ⟨zB,Bp ρ k l⟩
def U3{W:World}{b:Nat}(ops:∃v el fr,W.heap[1]? =M (.cells #[v] el fr)/\VR (sk W b) (.ab 5 2 aA) v/\v.oneCell'=true)(zero:∃el fr,W.heap[0]? =M (.cells #[.string ⟨[48].toArray⟩,.string ⟨[49].toArray⟩] el fr))
  (q:∃el fr,W.heap[3]? =M (.cells (([7,9,11,99]:List Int).map λd=>h_ c_ d).toArray el fr)) (E:∃el fr,W.heap[4]? =M (.cells #[.string ⟨[48].toArray⟩,.string ⟨[49].toArray⟩] el fr)) (F:∃el fr,W.heap[5]? =M (.cells #[.string ⟨[49].toArray⟩,.string ⟨[49].toArray⟩] el fr))
  (s:∃el fr,W.heap[8]? =M (.cells (Lib.pow10Tab.map λd=>h_ .u64 d).toArray el fr)) (o:∃el fr ms f,W.heap[2]? =M (.cells #[.map (M b)] el fr)/\W.heap[b]? =M (.map ms f)/\∀ρ,r9 ρ lS ms.toList):
  Rel (OX W b) (sk W b) Hm W:=by
 have i:=DD W b
 have pl:∀l cs el fr,l<12->W.heap[ux l]? =M (.cells cs el fr)->sk W b l=M (ux l,cs.size):=λl cs el fr t h=>by
  show(if l<12 then M (ux l,match W.heap[ux l]? with|some (.cells cs _ _)=>cs.size|_=>0)else _)=_
  rw[if_pos t,h]
 obtain⟨v,G,H,y,I,J⟩:=ops
 obtain⟨K,L,z1⟩:=zero
 obtain⟨Q,R,l1⟩:=q
 obtain⟨S,T,z2⟩:=E
 obtain⟨U,V,C⟩:=F
 obtain⟨u,w,D⟩:=s
 obtain⟨X,Y,ms,f,a1,a2,Z⟩:=o
 have n:∀l,14<=l->Hm.get l= .dead:=λl hl=>by
  rw[FZ,if_neg O,if_neg O,if_neg O,if_neg O,if_neg O,if_neg O,if_neg O,if_neg O]
 have two:∀(a c:List UInt8),∀x∈(#[F_ ⟨a.toArray⟩,F_ ⟨c.toArray⟩]:Array Value).toList,x.oneCell'=true:=λa c x hx=>by
  simp only[p_,o_,or_false]at hx
  rcases hx with rfl|rfl<;>rfl
 have j:∀(k:IntKind)(l:List Int),∀x∈(l.map λd=>h_ k d),x.oneCell'=true:=λk l x hx=>by
  obtain⟨d,_,rfl⟩:=List.mem_map.1 hx
  rfl
 refine {dF:=λl=>?_,sep:=λl l' r N N' _ h=>(by rw[OY]at h;cases h),gL:=λl r N h=>(by rw[OY]at h;cases h),gH:=λk p=>?_,size:=dw _,os:=rfl,output:=rfl,tape:=rfl,top:=λl hl=>?_,fp:=λg t=>⟨_,if_pos t⟩,hid:=λ_ _ _ _ _ h=>h,env:=λ_ h=>h.elim,low:=n,qY:=λk vs h=>?_,pV:=λl r N h=>(by rw[OY]at h;cases h),xw:=λ_ h=>h.elim,qZ:=λ_ _ h=>h}
 ·refine sh (P:=λl dF=>bp (sk W b) W (sk W b l) dF) ?_ ?_ ?_ ?_ ?_ ?_ ?_ ?_ (λ_=>trivial) l
  ·exact nh i y (pl 0 _ _ _ O y) (aU.aL.2 ⟨I,rfl⟩) (λx hx=>by
    have:x=v:=by simpa using hx
    rw[this];exact J)
  ·exact nh i z1 (pl 1 _ _ _ O z1) (aU.aL.2 ⟨zB,aU.aL.2 ⟨zB,rfl⟩⟩) (two _ _)
  ·exact nh i l1 (pl 2 _ _ _ O l1) (Bp _ c_ [7,9,11,99]) (j c_ [7,9,11,99])
  ·exact nh i a1 (pl 3 _ _ _ O a1) (aU.aL.2 ⟨by simp only[VR];exact⟨b,0,rfl,rfl⟩,rfl⟩) (λx hx=>by
    have:x= .map (M b):=by simpa using hx
    rw[this];rfl)
  ·have hl:(Lib.pow10Tab.map λd=>h_ .u64 d).length=20:=by rw[List.length_map,Lib.pow10Tab_length]
   refine .inr ⟨8,20,Lib.pow10Tab.map λd=>h_ .u64 d,[],u,w,?_,by rw[g_];exact D,by rw[g_];exact hl,Bp _ .u64 _,⟨(λh=>zE),(λ_ h=>zE),(λm h=>by cases h;rfl)⟩,j .u64 _,λh=>zE⟩
   have:=pl 6 _ _ _ O D
   rw[List.size_toArray,hl]at this
   exact this
  ·exact nh i z2 (pl 9 _ _ _ O z2) (aU.aL.2 ⟨zB,aU.aL.2 ⟨zB,rfl⟩⟩) (two _ _)
  ·exact nh i C (pl 10 _ _ _ O C) (aU.aL.2 ⟨zB,aU.aL.2 ⟨zB,rfl⟩⟩) (two _ _)
  ·exact⟨b,0,ms.toList,f,rfl,a2,Z _,λe=>zG⟩
 ·rcases p with p|p
  ·exact⟨p,rfl⟩
  ·exact p.elim
 ·have hl:14<=l:=hl
  show(if l<12 then _ else if l=13 then _ else s_)=s_
  rw[if_neg O,if_neg O]
 ·have h:(match W.heap[k]? with|some (.cells cs _ _)=>M cs.toList|_=>s_)=M vs:=h
  split at h
  ·rename_i cs el fr hb
   cases h
   exact⟨el,fr,by rw[hb]⟩
  ·cases h
end
end
end Go.Sx
