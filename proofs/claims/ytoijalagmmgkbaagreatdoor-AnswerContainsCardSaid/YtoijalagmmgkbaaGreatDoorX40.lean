/- The proof of a statement of the seat, part 40. -/
import Derived.Test.YtoijalagmmgkbaaGreatDoorX39
import Derived.OpenShut
import Derived.ReadAgain
import Derived.ChangeStays
import Derived.ChangeSame
import Derived.Deep.Slices
import Derived.Test.YtoijalagmmgkbaaGreatDoorX07
import Derived.Test.YtoijalagmmgkbaaGreatDoorX05
import Derived.Test.YtoijalagmmgkbaaGreatDoorX03
import Derived.WideKeyElems2
import Derived.LaidMore
import Derived.WideShapes
import Derived.Test.YtoijalagmmgkbaaGreatDoorRows
import Derived.LaidSub
import Derived.Lib.LaidTab
import Derived.Test.YtoijalagmmgkbaaGreatDoorX38
set_option linter.all false
set_option linter.defProp false
set_option maxRecDepth 1000000
namespace Go.Sx
open Go
open Option renaming some->B,isSome_none->u_,none->w_
open Go.IntKind renaming i64->z
open List renaming range->a_,getElem?_cons_zero->b_,take_append_drop->c_,getElem?_drop->d_,map_cons->e_,getElem?_take_of_lt->f_,length_take->g_,mem_cons_of_mem->h_,take_succ_cons->i_,mem_cons_self->j_,map_nil->l_,not_mem_nil->m_,drop_zero->n_,take_zero->o_,mem_cons->p_,mem_append_right->s_,getElem?_eq_none->t_,mem_append_left->v_,append_assoc->y_,all->z_,drop_drop->A_
open Decidable renaming decide->k_
open Nat renaming add_assoc->q_,succ_mul->r_,add_sub_cancel->x_,le_trans->B_
noncomputable section
def RM(q:Query)(n:Nat)(F:Nat->ay):r8 q n F<=n:=by
 have h:=(lG q F n).len
 unfold r8 ju
 split
 ·exact h
 ·exact B_ (jV _ _) h
def RN(q:Query)(n:Nat)(F:Nat->ay)(D:Nat->Int):sb q n F D<=n:=by
 have h:=(lG q F n).len
 unfold sb ju
 split
 ·exact h
 ·exact B_ (jV _ _) h
def OQ(n:Nat)(p:Nat->Bool)(h:∀i,p i=true):z_ (List.range.loop n []) p=true:=List.all_eq_true.2 λi _=>h i
def UZ{k:Nat}{F:Nat->ay}(h:∀j,j<k->bB (F j)=true)(n:Nat)(W:Nat->Int):tp k F (mY F n W)=true/\(Dl k λi=>aF (F i))=true:=by
 have b:∀j,j<k->0<=(F j).l/\(F j).l<=(F j).h/\(F j).h<=4398046511104:=λj a=>(jx (h j a)).1
 refine⟨List.all_eq_true.2 λj a=>?_,List.all_eq_true.2 λj a=>?_⟩
 ·obtain⟨a1,a2,d⟩:=b j (List.mem_range.1 a)
  simp only[bf,bn]
  unfold mY
  split
  ·omega
  ·have:=cj (c:=W (j%n)) (n:=(F j).h-(F j).l+1) O
   omega
 ·obtain⟨a1,a2,d⟩:=b j (List.mem_range.1 a)
  show(k_ (0<=(F j).l)&&k_ ((F j).l<=(F j).h)&&k_ ((F j).h<=4398046511104))=true
  simp only[bf,bn]
  omega
def OR{q:Query}{k:Nat}{F:Nat->ay}{D:Nat->Int}(c:ct q=true)(d:cX k F=true)(e:tp k F D=true)(hB:(Dl k λi=>aF (F i))=true)(n:Nat)(X:Nat->Nat->Int)(m:Nat)(C:Nat->Nat->Int)(agg g top:Int)(w:Nat)(W:Nat->Int)
  (f:aI 3 m (au C)=true) (ha:aN z agg=true) (j:aN z g=true) (ht:aN z top=true) (hX:aI 6 n (fm X)=true) (l:intsIn w (ae W)=true)
  (o:cJ agg (min m 3) (bG (au C)) g top=q) (p:mZ n (bG (fm X))=k) (r:oW n (bG (fm X))=F) (s:mY F w W=D):
  jE [S7,OE q,Hz k F,S1 q,S8 D,Hp q] (mG PP II [(10004,27,Rz q.ng (r8 q k F) (sb q k F D) (FM q k F) (FV q k F D) (oU q k F) (xm q k F D) (qP (Xv q k F D)) 0,RA)]) 1000 3 [.agg [.int z agg,.ab m 3 (au C),.int z g,.int z top],.ab n 6 (fm X),.ab w 1 (ae W)] Hm (λa H=>aa (Nat.ble 14 H.n) (a= .bool true)) (λ_ _=>False):=by
 have u:=jS d
 have t:=Xs c
 have fits:=contains c d (pM e)
 have r1:=RM q k F
 have v:=RN q k F D
 have lp:=RH fits t O O
 rw[RE]
 rw[show(bP λi=>aF (F i))=F from rfl,show aM (ae D)=D from rfl,jv,c,d,f,ha,j,ht,hX,l,hB,e,gr,kc,J3 o,OG p r,OI s,kV (O:k<=1000000),ni]
 have a1:(k_ (q.nw=q.nw)&&true&&z_ (List.range.loop q.nw []) λi=>k_ (q.C i 0=q.C i 0)&&(k_ (q.C i 1=q.C i 1)&&(k_ (q.C i 2=q.C i 2)&&true)))=true:=by
  rw[OQ _ _ λi=>zB];simp
 have a2:(k_ (q.ng=q.ng)&&true&&z_ (List.range.loop q.ng []) λi=>k_ (q.G i=q.G i)&&true)=true:=by
  rw[OQ _ _ λi=>zB];simp
 rw[a1,a2]
 have b:aE PP II false (aD II 3 10004) 27 (Rz q.ng (r8 q k F) (sb q k F D) (FM q k F) (FV q k F D) (oU q k F) (xm q k F D) (qP (Xv q k F D)) 0) RA/\true=true/\ax (sb q k F D) (sb q k F D) (an (sb q k F D) (aX q.ng (FV q k F D) (xm q k F D)) (aX q.ng (FV q k F D) (xm q k F D))/\ax (r8 q k F) (r8 q k F) (an (r8 q k F) (aX q.ng (FM q k F) (oU q k F)) (aX q.ng (FM q k F) (oU q k F))/\aH 0 (qP (Xv q k F D) 0) (AV.bool true= .bool true))):=
  ⟨lp,rfl,YG A ⟨eP _ _ _ _,YG A ⟨eP _ _ _ _,Zf A A⟩⟩⟩
 refine cC _ _ (Bl A A A A A A A A) (cC _ _ A (cC _ _ A (cC _ _ A (cC _ _ A (cC _ _ zB (cC _ _ A ?_))))))
 refine Zg (λh=>?_) λ_=>b
 refine wA ?_ b
 unfold r8 sb ju
 rw[if_pos h,if_pos h]
def RO{n:Nat}{X:Nat->Nat->Int}{m:Nat}{C:Nat->Nat->Int}{agg g top:Int}{w:Nat}{W:Nat->Int}(d:aI 3 m (au C)=true)(ha:aN z agg=true)(e:aN z g=true)(ht:aN z top=true)(hX:aI 6 n (fm X)=true)(f:intsIn w (ae W)=true):
  af PP II 3 [.agg [.int z agg,.ab m 3 (au C),.int z g,.int z top],.ab n 6 (fm X),.ab w 1 (ae W)] Hm (.ret (.bool true) (AH.blank 14)):=by
 have b:=JW n (bG (fm X))
 obtain⟨d1,i⟩:=UZ (jR b) w W
 have h:=OR (q:=cJ agg (min m 3) (bG (au C)) g top) (by unfold ct;rw[J8,J9,OP];rfl) b d1 i n X m C agg g top w W d ha e ht hX f A A A A
 obtain⟨o,c,j⟩:=fJ iw _ (bm PP II _) 1000 3 _ Hm _ _ h
 cases o with
 |ret a H1=>
  obtain⟨k,k1⟩:=Zk c
  have k1:a= .bool true:=k1
  subst k1
  exact j.le (ky.of [] (im.of A A A A k (gS.2 λl _=>trivial)) A)
 |qt a H1=>exact c.elim
section
open Go.ChangeShapes Go.WideShapes Go.Deep
section
variable {H:Type} {enc:TypeId×Value->H} {P:Program} {W:World} {sp:Nat->Bool} {held:Bool}
def kU(W a:World):Prop:=a.os=W.os/\a.output=W.output/\∀i,i<W.heap.size->a.heap[i]? =W.heap[i]?
theorem kU.same{a:World}(h:kU W a){p:MemPlace}(c:p.block<W.heap.size):W.sameAt a p:=by
 cases p with
 |cell b off=>show a.cell? _=W.cell? _;unfold World.cell?;rw[h.2.2 b c]
 |map b=>exact h.2.2 b c
theorem kU.frozen{a:World}(h:kU W a){b off:Nat}(c:b<W.heap.size):a.frozen? ⟨b,off,w_⟩=W.frozen? ⟨b,off,w_⟩:=by
 unfold World.frozen?
 rw[h.2.2 b c]
end
end
section
open Go.ChangeShapes Go.WideShapes Go.Deep
def RP(m:Nat)(X:Nat->Nat->Int)(j:Nat):List AV:=(a_ m).map λk=> .int z (X j k)
def xB(ρ:Env)(W:World):Prop := ∀b cs el fr,W.heap[b]? =B (.cells cs el fr)->ρ.fz b=B cs.toList
section
variable {H:Type} {enc:TypeId×Value->H} {P:Program} {W:World} {sp:Nat->Bool} {held:Bool}
theorem xC{a:Int}(h:(Lit.int z a).wf=true):aN z a=true:=by
 unfold aN
 rw[Km,Km]
 exact h
theorem zx{ρ:Env}:∀{m:Nat}{us:List Value}{x:Nat->Int},us.length=m->(∀k,k<m->us[k]? =B (.int z (x k)))->aU ρ ((a_ m).map λk=> .int z (x k)) us
 |0,us,x,hl,_=>by
  have:us=[]:=List.length_eq_zero_iff.1 hl
  subst this;exact A
 |m+1,us,x,hl,h=>by
  match us,hl,h with
  |u::us,hl,h=>
   have a:=h 0 O
   simp only[b_,fE]at a
   rw[List.range_succ_eq_map,e_,List.map_map]
   refine⟨u,us,rfl,a,zx (m:=m) (x:=λk=>x (k+1)) (by simpa using hl) λk b=>?_⟩
   have:=h (k+1) O
   simpa using this
theorem zy{ρ:Env}(J:xB ρ W){t e i m:Nat}{fuel:Nat}{v:Value}{x:DataW H×List MemPlace}(ht:P.underlying t=B (.slice e))(V:P.underlying e=B (.array m i))(hi:P.underlying i=B (.int z))(Y:P.cellsOf i=1)(Z:P.cellsOf e=m)(hm:0<m)
  (h:DataW.trod enc P W 0 sp held fuel t [v]=B x):∃(n:Nat)(X:Nat->Nat->Int),VR ρ (.ab n m (RP m X)) v/\∀j,j<n->∀k,k<m->aN z (X j k)=true:=by
 rcases open_slice ht h with⟨h0,_⟩|⟨a,len,cap,mm,nn,D,Pl,hv,_,hl,_,K,_,hx⟩
 ·cases h0
  refine⟨0,λ_ _=>0,?_,λj f=>absurd f (lZ _)⟩
  simp[VR]
 ·cases hv
  have ad:len<=mm:=by rw[K];split<;>omega
  rw[Z]at hx
  by_cases E:len=0
  ·subst E
   refine⟨0,λ_ _=>0,?_,λj f=>absurd f (lZ _)⟩
   simp only[VR]
   exact .inr ⟨0,0,cap,a,λ_=>[],rfl,hl,λh=>absurd h (HD _)⟩
  ·have cells:∀j k,j<len->k<m->∃d,W.cell? (a.add (j*m+k))=B (.int z d)/\aN z d=true:=by
    intro j k f g
    obtain⟨L,G,M⟩:=hx j O
    obtain⟨_,o,hc⟩:=World.cells?_some G
    obtain⟨xs,m',_,_,_,_,N⟩:=DataW.trod_array V M
    have r:=N k g
    rw[Y,Nat.mul_one]at r
    have Q:k<xs.length:=O
    rw[mo Q]at r
    obtain⟨d,R,_,S⟩:=DataW.trod_int hi r
    have T:L[k]? =B (.int z d):=by
     have:=congrArg (·[0]?) R
     simpa [List.getElem?_take,d_]using this
    refine⟨d,?_,xC S⟩
    rw[<-add_add,hc k g];exact T
   let X:Nat->Nat->Int:=λj k=>match W.cell? (a.add (j*m+k))with|some (.int z d)=>d|_=>0
   have hX:∀j k,j<len->k<m->W.cell? (a.add (j*m+k))=B (.int z (X j k))/\aN z (X j k)=true:=by
    intro j k f g
    obtain⟨d,G,M⟩:=cells j k f g
    have:X j k=d:=by simp only[X];rw[G]
    rw[this];exact⟨G,M⟩
   have p:=(hX 0 0 O hm).1
   have ea:a.add (0*m+0)=a:=by simp[Addr.add]
   rw[ea]at p
   obtain⟨b,off,q⟩:=a
   have w:q=w_/\∃cs el fr,W.heap[b]? =B (.cells cs el fr):=by
    unfold World.cell? at p
    split at p
    ·rename_i c el fr I
     cases q with
     |none=>exact⟨rfl,c,el,fr,I⟩
     |some s=>simp at p
    ·cases p
   obtain⟨rfl,cs,el,fr,I⟩:=w
   have y:∀j k,j<len->k<m->cs.toList[off+(j*m+k)]? =B (.int z (X j k)):=by
    intro j k f g
    have:=(hX j k f g).1
    have e1:(Addr.mk b off w_).add (j*m+k)=⟨b,off+(j*m+k),w_⟩:=by
     unfold Addr.add
     by_cases E:j*m+k=0
     ·rw[if_pos E,E];rfl
     ·rw[if_neg E]
    rw[e1]at this
    simp only[World.cell?,I,u_,kH,if_false]at this
    simpa using this
   have C:off+len*m<=cs.toList.length:=by
    have:=(List.getElem?_eq_some_iff.1 (y (len-1) (m-1) O O)).1
    have e2:(len-1)*m+m=len*m:=by
     obtain⟨l,rfl⟩:∃l,len=l+1:=⟨len-1,O⟩
     rw[x_,r_]
    omega
   refine⟨len,X,?_,λj f k g=>(hX j k f g).2⟩
   simp only[VR]
   refine .inr ⟨b,off,cap,⟨b,off,w_⟩,λj=>(cs.toList.drop (off+j*m)).take m,rfl,hl,λ_=>⟨rfl,⟨?_,cs.toList.take off,cs.toList.drop (off+len*m),by rw[g_];omega,?_⟩,λj f=>?_⟩⟩
   ·intro u U
    obtain⟨j,f,U⟩:=List.mem_flatMap.1 U
    have f:=List.mem_range.1 f
    obtain⟨k,g⟩:=List.mem_iff_getElem?.1 U
    have F:k<m:=by
     have:=(List.getElem?_eq_some_iff.1 g).1
     simp at this;omega
    rw[f_ F,d_,q_,y j k f F]at g
    cases g;rfl
   ·rw[J b cs el fr I,rq C,<-A_]
    rw[y_,c_,c_]
   ·have o:((cs.toList.drop (off+j*m)).take m).length=m:=by
     have:j*m+m<=len*m:=by
      have:=Nat.mul_le_mul_right m (show j+1<=len from f)
      rw[r_]at this;exact this
     simp only[g_,List.length_drop];omega
    refine⟨o,zx o λk g=>?_⟩
    rw[f_ g,d_,q_]
    exact y j k f g
theorem zz{d:World}{a:Nat->Bool}{T:TypeId->Prop}(K:Kids P T)(f:∀{t e:TypeId},T t->P.underlying t=B (.slice e)->0<P.cellsOf e):∀{c:List TypeId}{vs:List Value}{ds:List (DataW H)}{b:List MemPlace},(∀t∈c,T t)->
  DataW.TrodAll enc P W 0 (λ_=>true) true c vs ds b->(∀p∈b,W.sameAt d p)->(∀p∈b,a p.block=true)->DataW.TrodAll enc P d 0 a true c vs ds b
 |[],[],[],_,_,h,_,_=>h
 |_::_,_::_,_::_,_,g,⟨p,q,⟨n,h1⟩,k,e⟩,i,j=>⟨p,q,⟨n,DataW.trod_stays K f (λh=>zE) (g _ (List.mem_cons.2 (.inl A))) h1 (λx hx=>i x (by rw[e];exact v_ _ hx)) (λx hx=>j x (by rw[e];exact v_ _ hx))⟩,
   zz K f (λt ht=>g t (List.mem_cons.2 (.inr ht))) k (λx hx=>i x (by rw[e];exact s_ _ hx)) (λx hx=>j x (by rw[e];exact s_ _ hx)),e⟩
theorem kU.Y6{b:World}(h:kU W b)(a:MemPlace->Prop):W.keptBut b a:=by
 refine⟨h.1,h.2.1,λi hi=>?_⟩
 rw[h.2.2 i hi]
 cases hw:W.heap[i]? with
 |none=>trivial
 |some o=>cases o<;>first|exact⟨rfl,rfl,rfl,λ_ _=>rfl⟩|exact .inr ⟨rfl,rfl⟩|rfl
theorem Ka{l:World}{f:Func}{s:ChangeSpec}{apart fresh a h:Bool}{args:Array Value}{v:Value}{ds gs:List (DataW H)}{before:List MemPlace}{T:TypeId->Prop}(K:Kids P T)(G:∀{t e:TypeId},T t->P.underlying t=B (.slice e)->0<P.cellsOf e)(I:∀t∈f.params.toList,T t)
  (c:s.vars=[]) (u:DataW.Whole enc P f.params.toList s.vars apart W args.toList ds gs before) (w:kU W l)
  (g:∀(b:Nat)(sp:Nat->Bool)(J:Bool),DataW.TrodAll enc P l b sp J f.resultTypes.toList (v.resultList f.resultTypes.size) (s.fn H (ds++gs)).results [])
  (x:(s.fn H (ds++gs)).args=ds) (y:(s.fn H (ds++gs)).vars=gs)
  (C:∀(j:Nat)(t:TypeId)(r:Value),f.resultTypes[j]? =B t->(v.resultList f.resultTypes.size)[j]? =B r->Value.okWide P l .any 0 t r):
  s.post enc P f apart fresh a h W args v l:=by
 have i:=u.lt
 have D:=u
 obtain⟨N,O,hA,F,m,E,L⟩:=u
 rw[c]at F
 obtain⟨rfl,rfl⟩:=trodVars_none F
 rw[List.append_nil]at m
 subst m
 have d:∀sp:Nat->Bool,(∀p∈before,sp p.block=true)->DataW.TrodAll enc P l 0 sp true f.params.toList args.toList (s.fn H (ds++[])).args before:=λsp M=>by
  rw[x];exact zz K G I hA (λp k=>w.same (i p k)) M
 have n:∀sp:Nat->Bool,DataW.TrodVars enc P l sp s.vars (s.fn H (ds++[])).vars []:=λsp=>by rw[c,y];exact A
 have o:∀p∈before,(λb=>k_ (b<W.heap.size)) p.block=true:=λp k=>by simpa using i p k
 refine⟨ds,[],before,[],before,[],D,g _ _ _,d _ o,n _,w.Y6 _,λ_=>?_⟩
 refine⟨C,_,_,([]++before)++[],⟨[]++before,[],trodAll_append (d _ (λ_ _=>rfl)) (g _ _ _),n _,rfl,?_,?_⟩,?_⟩
 ·intro b off k
  have q:MemPlace.cell b off∈before:=by simpa using k
  rw[w.frozen (b:=b) (off:=off) (i _ q)]
  exact E b off q
 ·intro ha
  simpa using L ha
 ·intro p k _
  simpa using k
end
end
def HB{a:TypeDesc}{b:Value}:∀{l:List MapEntry}{j i:Nat}{v:Value},Instr.findNow a b l j=B (B (i,v))->∃x∈l,Instr.sameNow a b x.key=B true/\v=x.val
 |[],_,_,_,h=>by simp[Instr.findNow]at h
 |x::l,j,i,v,h=>by
  unfold Instr.findNow at h
  split at h
  ·rename_i c
   simp only[fE,Prod.mk.injEq]at h
   exact⟨x,j_,c,h.2.symm⟩
  ·obtain⟨y,d,e,f⟩:=HB h
   exact⟨y,h_ _ d,e,f⟩
  ·cases h
def RQ{b:TypeDesc}{c:Value}{n:Int}(h:Instr.sameNow b c (.int z n)=B true):∃q,b= .int q/\c= .int z n:=by
 cases b<;>cases c<;>simp[Instr.sameNow]at h
 rename_i q k a
 obtain⟨rfl,rfl⟩:=h
 exact⟨q,rfl,rfl⟩
def Gx{q:IntKind}{n:Int}{u:Value}:∀{l:List MapEntry}(_:∀x∈l,∃m,x.key= .int z m)(_:∀x∈l,x.key= .int z n->x.val=u)(j:Nat)(_:∃x∈l,x.key= .int z n),∃i,Instr.findNow (.int q) (.int z n) l j=B (B (i,u))
 |[],_,_,_,h=>by obtain⟨x,hx,_⟩:=h;cases hx
 |x::l,h1,d,j,f=>by
  obtain⟨m,b⟩:=h1 x j_
  unfold Instr.findNow
  by_cases e:n=m
  ·subst e
   rw[b]
   simp only[Instr.sameNow,if_true,beq_self_eq_true]
   exact⟨j,by rw[d x j_ b]⟩
  ·rw[b]
   have:(n==m)=false:=zQ
   simp only[Instr.sameNow,if_true,this]
   refine Gx (λy a=>h1 y (h_ _ a)) (λy a=>d y (h_ _ a)) (j+1) ?_
   obtain⟨y,a,c⟩:=f
   rcases List.mem_cons.1 a with rfl|a
   ·rw[b]at c;cases c;exact absurd A e
   ·exact⟨y,a,c⟩
def F1{b ms:List MapEntry}(a:∀x∈b,x∈ms)(f:∀x∈ms,∃n,x.key= .int z n)(j:∀x∈ms,∀y∈ms,x.key=y.key->x.val=y.val):so b ms:=by
 intro l m i v h
 obtain⟨x,c,g,rfl⟩:=HB h
 obtain⟨n,d⟩:=f x (a x c)
 rw[d]at g
 obtain⟨q,rfl,rfl⟩:=RQ g
 exact Gx f (λy k e=>j y k x (a x c) (by rw[e,d])) 0 ⟨x,a x c,d⟩
def OS{ms:List MapEntry}{V:Nat->Value}(d:∀x∈ms,∃i:Nat,i<5/\x.key= .int z ((i:Int)+1)/\x.val=V i)(b:∀i:Nat,i<5->∃x∈ms,x.key= .int z ((i:Int)+1)):
  ∃a:List MapEntry,a.map (·.key)=[.int z 1,.int z 2,.int z 3,.int z 4,.int z 5]/\a.map (·.val)=[V 0,V 1,V 2,V 3,V 4]/\so a ms:=by
 have val:∀i:Nat,i<5->∀x∈ms,x.key= .int z ((i:Int)+1)->x.val=V i:=λi hi x hx e=>by
  obtain⟨j,_,c,f⟩:=d x hx
  rw[c]at e
  have:(j:Int)+1=(i:Int)+1:=by injection e
  have:j=i:=O
  rw[f,this]
 obtain⟨g,q,h⟩:=b 0 O
 obtain⟨k,r,k1⟩:=b 1 O
 obtain⟨l,s,k2⟩:=b 2 O
 obtain⟨m,t,n⟩:=b 3 O
 obtain⟨o,u,p⟩:=b 4 O
 refine⟨[g,k,l,m,o],?_,?_,F1 (λx hx=>?_) (λx hx=>?_) λx hx y v e=>?_⟩
 ·simp only[e_,l_,h,k1,k2,n,p];rfl
 ·simp only[e_,l_,val 0 O g q h,val 1 O k r k1,val 2 O l s k2,val 3 O m t n,val 4 O o u p]
 ·simp only[p_,m_,or_false]at hx
  rcases hx with rfl|rfl|rfl|rfl|rfl<;>assumption
 ·obtain⟨i,_,c,_⟩:=d x hx
  exact⟨_,c⟩
 ·obtain⟨i,hi,c,f⟩:=d x hx
  rw[f,val i hi y v (by rw[<-e,c])]
section
open Go.WideShapes
def pN{P:Program}{k:TypeId}(a:P.underlying k=B (.int z)){v:Value}{n:Int}(h:keyOf P k v=B (.int z n)):v= .int z n:=by
 unfold keyOf at h
 rw[a]at h
 unfold mapKey at h
 rw[a]at h
 cases v<;>simp at h
 obtain⟨⟨rfl,_⟩,rfl⟩:=h
 rfl
def xD{P:Program}{W:World}{e:TypeId}{i:Field}{w rs:Array TypeId}{x:Bool}{n:Nat}{sp:Nat->Bool}{v:Value}{a:DataW (List UInt8)×List MemPlace}{b:UInt8}{r:List UInt8}{f:FuncId}
  (t:P.underlying e=B (.struct #[i])) (y:i.offset=0) (l:P.cellsOf e=1) (o:P.cellsOf i.type=1) (C:P.underlying i.type=B (.func w rs x))
  (j:((a_ P.funcs.size).filter λf=>(P.funcs[f]?).any (·.name.toUTF8.data.toList==b::r))=[f])
  (h:WideElems.elemAt (funcToken P) P W 0 sp true n e v=B a) (g:a.1= .agg [.held (b::r)]):v= .agg #[.func (.func f) #[] #[]]:=by
 unfold WideElems.elemAt at h
 split at h
 ·rename_i d
  obtain⟨D,m,_,hx,hl,p,q⟩:=DataW.trod_struct t h
  rw[hx]at g
  simp only[DataW.agg.injEq]at g
  match D,p,g with
  |[E],_,g=>
   simp only[e_,l_,List.cons.injEq,and_true]at g
   have k:=q 0 i A
   rw[y,o,n_]at k
   rw[l]at hl
   obtain⟨c,u⟩:∃c,v.cells.toList=[c]:=by
    match F:v.cells.toList,hl with
    |[c],_=>exact⟨c,rfl⟩
   rw[u]at k
   simp only[i_,o_,b_]at k
   obtain⟨G,H⟩:=E
   simp only at g
   subst g
   have s:=func_of_trod C j k
   subst s
   unfold Value.formed at d
   cases v with
   |agg cs=>
    have:cs= #[.func (.func f) #[] #[]]:=by
     apply Array.ext'
     exact u
    rw[this]
   |_=>simp[t]at d
 ·cases h
def Kb{P:Program}{W:World}{t k e:TypeId}{G:Field}{K rs:Array TypeId}{L:Bool}{fuel:Nat}{cs:List Value}{p:List MemPlace}{N:Nat->UInt8×List UInt8}{F:Nat->FuncId}
  (ht:P.underlying t=B (.map k e)) (r:P.underlying k=B (.int z)) (s:P.underlying e=B (.struct #[G])) (u:G.offset=0) (l:P.cellsOf e=1) (m:P.cellsOf G.type=1) (v:P.underlying G.type=B (.func K rs L))
  (c:∀i,i<5->((a_ P.funcs.size).filter λf=>(P.funcs[f]?).any (·.name.toUTF8.data.toList==(N i).1::(N i).2))=[F i])
  (h:DataW.trod (funcToken P) P W 0 (λ_=>true) true fuel t cs=B (.map [(.int z 1,.agg [.held ((N 0).1::(N 0).2)]),(.int z 2,.agg [.held ((N 1).1::(N 1).2)]),(.int z 3,.agg [.held ((N 2).1::(N 2).2)]),(.int z 4,.agg [.held ((N 3).1::(N 3).2)]),(.int z 5,.agg [.held ((N 4).1::(N 4).2)])],p)):
  ∃b ms j,cs=[.map (B b)]/\W.heap[b]? =B (.map ms j)/\(∀x∈ms.toList,∃i:Nat,i<5/\x.key= .int z ((i:Int)+1)/\x.val= .agg #[.func (.func (F i)) #[] #[]])/\∀i:Nat,i<5->∃x∈ms.toList,x.key= .int z ((i:Int)+1):=by
 rcases WideElems.open_map ht h with⟨_,hx⟩|⟨b,es,j,n,_,I,M,_,fit,hx⟩
 ·simp at hx
 ·simp only[Prod.mk.injEq,DataW.map.injEq]at hx
  obtain⟨hL,_⟩:=hx
  have perm:=sorted_perm (es.toList.map (WideElems.rg P k (WideElems.elemAt (funcToken P) P W 0 (λ_=>true) true n e)))
  rw[<-hL]at perm
  refine⟨b,es,j,I,M,λx hx=>?_,λi hi=>?_⟩
  ·obtain⟨y,w⟩:=fit.reads x hx
   have H:=perm.mem_iff.2 (List.mem_map.2 ⟨x,hx,WideElems.rg_of w⟩)
   obtain⟨a,C,o⟩:=WideElems.rd_val w
   have g:=WideElems.rd_key w
   simp only[p_,m_,or_false]at H
   rcases H with rfl|rfl|rfl|rfl|rfl
   ·exact⟨0,O,pN r g,xD s u l m v (c 0 O) C o.symm⟩
   ·exact⟨1,O,pN r g,xD s u l m v (c 1 O) C o.symm⟩
   ·exact⟨2,O,pN r g,xD s u l m v (c 2 O) C o.symm⟩
   ·exact⟨3,O,pN r g,xD s u l m v (c 3 O) C o.symm⟩
   ·exact⟨4,O,pN r g,xD s u l m v (c 4 O) C o.symm⟩
  ·have back:∀y∈[((.int z 1:Lit),(.agg [.held ((N 0).1::(N 0).2)]:DataW (List UInt8))),(.int z 2,.agg [.held ((N 1).1::(N 1).2)]),(.int z 3,.agg [.held ((N 2).1::(N 2).2)]),(.int z 4,.agg [.held ((N 3).1::(N 3).2)]),(.int z 5,.agg [.held ((N 4).1::(N 4).2)])],∃x∈es.toList,keyOf P k x.key=B y.1:=λy w=>by
    obtain⟨x,hx,D⟩:=List.mem_map.1 (perm.mem_iff.1 w)
    obtain⟨Q,E⟩:=fit.reads x hx
    rw[WideElems.rg_of E]at D
    subst D
    exact⟨x,hx,WideElems.rd_key E⟩
   have q:∀n d,((.int z n:Lit),(d:DataW (List UInt8)))∈[((.int z 1:Lit),(.agg [.held ((N 0).1::(N 0).2)]:DataW (List UInt8))),(.int z 2,.agg [.held ((N 1).1::(N 1).2)]),(.int z 3,.agg [.held ((N 2).1::(N 2).2)]),(.int z 4,.agg [.held ((N 3).1::(N 3).2)]),(.int z 5,.agg [.held ((N 4).1::(N 4).2)])]->∃x∈es.toList,x.key= .int z n:=λn d H=>by
    obtain⟨x,hx,J⟩:=back _ H
    exact⟨x,hx,pN r J⟩
   match i,hi with
   |0,_=>exact q 1 (.agg [.held ((N 0).1::(N 0).2)]) zB
   |1,_=>exact q 2 (.agg [.held ((N 1).1::(N 1).2)]) zB
   |2,_=>exact q 3 (.agg [.held ((N 2).1::(N 2).2)]) zB
   |3,_=>exact q 4 (.agg [.held ((N 3).1::(N 3).2)]) zB
   |4,_=>exact q 5 (.agg [.held ((N 4).1::(N 4).2)]) zB
   |i+5,h=>exact absurd h O
end
section
open Go.Deep
def Gy{ρ:Env}{W:World}{a:Addr}{len cap m:Nat}{f:Nat->List AV}(C:xB ρ W)(I:0<m)(hl:len<=cap)
  (g:∀j,j<len->∃us:List Value,us.length=m/\(∀u∈us,u.oneCell'=true)/\aU ρ.bare (f j) us/\∀k,k<m->W.cell? (a.add (j*m+k))=us[k]?):VR ρ (.ab len m f) (.slice (B a) len cap):=by
 by_cases p:len=0
 ·subst p
  simp only[VR]
  exact .inr ⟨0,0,cap,a,λ_=>[],rfl,hl,λh=>absurd h (HD _)⟩
 ·obtain⟨D,M,_,_,c0⟩:=g 0 O
  have d:=c0 0 I
  have J:a.add (0*m+0)=a:=by simp[Addr.add]
  rw[J]at d
  obtain⟨b,off,i⟩:=a
  have n:i=w_/\∃cs el fr,W.heap[b]? =B (.cells cs el fr):=by
   have e:D[0]? ≠w_:=by rw[mo O];exactλh=>zE
   unfold World.cell? at d
   split at d
   ·rename_i c el fr w
    cases i with
    |none=>exact⟨rfl,c,el,fr,w⟩
    |some s=>simp at d;exact absurd d.symm (by simpa using e)
   ·exact absurd d.symm e
  obtain⟨rfl,cs,el,fr,w⟩:=n
  have K:∀q,(Addr.mk b off w_).add q=⟨b,off+q,w_⟩:=λq=>by
   unfold Addr.add
   by_cases p:q=0
   ·rw[if_pos p,p];rfl
   ·rw[if_neg p]
  have row:∀j,j<len->∃us:List Value,us.length=m/\(∀u∈us,u.oneCell'=true)/\aU ρ.bare (f j) us/\off+j*m+m<=cs.toList.length/\(cs.toList.drop (off+j*m)).take m=us:=by
   intro j r
   obtain⟨us,E,F,G,L⟩:=g j r
   have t:∀k,k<m->cs.toList[off+j*m+k]? =us[k]? :=λk x=>by
    have:=L k x
    rw[K]at this
    simp only[World.cell?,w,u_,kH,if_false]at this
    rw[<-this,q_]
    simp
   have o:off+j*m+m<=cs.toList.length:=by
    have:=t (m-1) O
    rw[mo (O:m-1<us.length)]at this
    have:=(List.getElem?_eq_some_iff.1 this).1
    omega
   refine⟨us,E,F,G,o,?_⟩
   apply List.ext_getElem?
   intro k
   by_cases x:k<m
   ·rw[f_ x,d_,t k x]
   ·rw[t_ (by rw[g_];omega),t_ O]
  have v:off+len*m<=cs.toList.length:=by
   obtain⟨_,_,_,_,h,_⟩:=row (len-1) O
   have N:(len-1)*m+m=len*m:=by
    obtain⟨l,rfl⟩:∃l,len=l+1:=⟨len-1,O⟩
    rw[x_,r_]
   omega
  simp only[VR]
  refine .inr ⟨b,off,cap,⟨b,off,w_⟩,λj=>(cs.toList.drop (off+j*m)).take m,rfl,hl,λ_=>⟨rfl,⟨?_,cs.toList.take off,cs.toList.drop (off+len*m),by rw[g_];omega,?_⟩,λj r=>?_⟩⟩
  ·intro u y
   obtain⟨j,r,y⟩:=List.mem_flatMap.1 y
   obtain⟨us,_,F,_,_,H⟩:=row j (List.mem_range.1 r)
   simp only[H]at y
   exact F u y
  ·rw[C b cs el fr w,rq v,<-A_]
   rw[y_,c_,c_]
  ·obtain⟨us,E,_,G,_,H⟩:=row j r
   simp only[H]
   exact⟨E,G⟩
def F2{H:Type}{enc:TypeId×Value->H}{P:Program}{W:World}{sp:Nat->Bool}{held:Bool}{fuel:Nat}{t:TypeId}{c:Value}{s:List UInt8}{p:List MemPlace}(ht:P.underlying t=B .string)
  (h:DataW.trod enc P W 0 sp held fuel t [c]=B (.lit (.string s),p)):c= .string ⟨s.toArray⟩:=by
 obtain⟨b,a,d,_⟩:=DataW.trod_string ht h
 simp only[Prod.mk.injEq,DataW.lit.injEq,Lit.string.injEq]at d
 simp only[List.cons.injEq,and_true]at a
 rw[a,d.1]
def U0{H:Type}{enc:TypeId×Value->H}{P:Program}{W:World}{sp:Nat->Bool}{held:Bool}{fuel:Nat}{t:TypeId}{a rs:Array TypeId}{b:Bool}{c:Value}{p:List MemPlace}(ht:P.underlying t=B (.func a rs b))
  (h:DataW.trod enc P W 0 sp held fuel t [c]=B (.nil,p)):c= .nilFunc:=by
 cases fuel with
 |zero=>simp[DataW.trod]at h
 |succ n=>cases c<;>simp[DataW.trod,ht]at h<;>rfl
def Sm{ρ:Env}{P:Program}{W:World}{e:TypeId}{a f1:Field}{sp:Nat->Bool}{fuel:Nat}{cs:List Value}{x:DataW (List UInt8)×List MemPlace}{j d1:DataW (List UInt8)}{a0 a1:AV}(q:P.underlying e=B (.struct #[a,f1]))(r:a.offset=0)(s:f1.offset=1)(c0:P.cellsOf a.type=1)(t:P.cellsOf f1.type=1)(v:P.cellsOf e=2)
  (h:DataW.trod (funcToken P) P W 0 sp true fuel e cs=B x) (hx:x.1= .agg [j,d1])
  (w:∀n c p,DataW.trod (funcToken P) P W 0 sp true n a.type [c]=B (j,p)->VR ρ a0 c/\c.oneCell'=true) (y:∀n c p,DataW.trod (funcToken P) P W 0 sp true n f1.type [c]=B (d1,p)->VR ρ a1 c/\c.oneCell'=true):
  ∃us:List Value,cs=us/\us.length=2/\(∀u∈us,u.oneCell'=true)/\aU ρ [a0,a1] us:=by
 obtain⟨C,n,_,d,hl,f,b⟩:=DataW.trod_struct q h
 rw[d]at hx
 simp only[DataW.agg.injEq]at hx
 rw[v]at hl
 match C,f,hx with
 |[k,l],_,hx=>
  match cs,hl with
  |[m,g],_=>
   simp only[e_,l_,List.cons.injEq,and_true]at hx
   have i:=b 0 a A
   have g1:=b 1 f1 A
   rw[r,c0]at i
   rw[s,t]at g1
   simp only[n_,i_,o_,b_]at i
   simp only[List.drop_succ_cons,n_,i_,o_,List.getElem?_cons_succ,b_]at g1
   obtain⟨k,p0⟩:=k
   obtain⟨l,F⟩:=l
   obtain⟨rfl,rfl⟩:=hx
   obtain⟨k1,k2⟩:=w _ _ _ i
   obtain⟨D,E⟩:=y _ _ _ g1
   refine⟨[m,g],rfl,rfl,λu o=>?_,⟨m,[g],rfl,k1,g,[],rfl,D,rfl⟩⟩
   simp only[p_,m_,or_false]at o
   rcases o with rfl|rfl
   ·exact k2
   ·exact E
def HC{ρ:Env}{f:FuncId}{c:Value}(h:c= .func (.func f) #[] #[]):VR ρ (.fn f [] []) c/\c.oneCell'=true:=by
 subst h
 refine⟨?_,rfl⟩
 simp only[VR]
 exact⟨[],[],rfl,rfl,rfl⟩
def Yl{ρ:Env}{s:List UInt8}{c:Value}(h:c= .string ⟨s.toArray⟩):VR ρ (.str s) c/\c.oneCell'=true:=by
 subst h
 exact⟨Y,rfl⟩
end
section
open Go.Deep Go.Proofs
open Go.Proofs.YtoijalagmmgkbaaGreatDoor (Rows.answerContainsRow)
def si{P:Program}{W:World}{n:String}{d:DataW Unit}:∀{l:List (String×DataW Unit)}{a:List MemPlace},DataW.LaidVars P W l a->(n,d)∈l->
  ∃g t cs fuel p,P.globalNamed n=B g/\(P.globals[g]?).map (·.type)=B t/\W.var? P n=B cs/\DataW.trod (λ_=>()) P W 0 (λ_=>true) false fuel t cs.toList=B (d,p)
 |[],_,_,h=>zE
 |(j,k)::l,_,⟨g,t,cs,fuel,p,q,h1,b,c,f,i,_⟩,h=>by
  rcases List.mem_cons.1 h with e|h
  ·cases e;exact⟨g,t,cs,fuel,p,h1,b,c,f⟩
  ·exact si i h
def sj{P:Program}{W:World}{l:List (String×DataW Unit)}(hL:laidMetH P l W){n:String}{d:DataW Unit}(a:(n,d)∈l)(b:d.handleName?.isNone=true):
  ∃g t cs fuel p,P.globalNamed n=B g/\(P.globals[g]?).map (·.type)=B t/\W.var? P n=B cs/\DataW.trod (λ_=>()) P W 0 (λ_=>true) false fuel t cs.toList=B (d,p):=by
 obtain⟨⟨c,h,_⟩,_⟩:=laidMetH_iff.1 hL
 exact si h (List.mem_filter.2 ⟨a,b⟩)
def nY{P:Program}{W:World}{n:String}{g:Nat}{cs:Array Value}(a:P.globalNamed n=B g)(h:W.var? P n=B cs):∃el fr,W.heap[g]? =B (.cells cs el fr):=by
 simp only[World.var?,a,Option.bind_some]at h
 split at h
 ·rename_i c el fr b
  cases h
  exact⟨el,fr,b⟩
 ·cases h
def OT{cs:Array Value}{v:Value}(h:cs.toList=[v]):cs= #[v]:=by
 apply Array.ext';exact h
def Xb:PP.globalNamed "latecomer/answer.zero" =B 0:=U
def Ym:PP.globalNamed "latecomer/query.operators" =B 1:=U
def Xc:PP.globalNamed "latecomer/answer.aggregates" =B 2:=U
def Yn:PP.globalNamed "latecomer/sketch.limits" =B 3:=U
def Y7:PP.globalNamed "latecomer/estimate.zero" =B 4:=U
def Y8:PP.globalNamed "latecomer/estimate.one" =B 5:=U
def Yo:PP.globalNamed "internal/strconv.uint64pow10" =B 8:=U
def Yp:PP.globals.toList.map (·.type)=[30,149,179,202,30,30,211,211,354,3,356,359,362,363]:=U
def F3(g:Nat)(t:TypeId)(h:([30,149,179,202,30,30,211,211,354,3,356,359,362,363]:List TypeId)[g]? =B t):(PP.globals[g]?).map (·.type)=B t:=by
 rw[<-h,<-Yp,List.getElem?_map,Array.getElem?_toList]
def c3:PP.cellsOf 3=1:=U
def c9:PP.cellsOf 9=1:=U
def c146:PP.cellsOf 146=1:=U
def Yq:PP.cellsOf 100=1:=U
def Yr:PP.cellsOf 178=1:=U
def Ys:PP.cellsOf 261=1:=U
def c148:PP.cellsOf 148=2:=U
def Y9:PP.cellsOf 30=2:=U
def Yt:PP.cellsOf 202=4:=U
def Za:PP.cellsOf 84=6:=U
def c127:PP.cellsOf 127=3:=U
def c24:PP.cellsOf 24=4:=U
def Zb:PP.cellsOf 22=1:=U
def Yu:PP.cellsOf 354=20:=U
def di(c:UInt8):UInt8×List UInt8:=(108,[97,116,101,99,111,109,101,114,47,113,117,101,114,121,46,111,112,101,114,97,116,111,114,115,36,c])
def ig(i:Nat):UInt8×List UInt8:=(108,[97,116,101,99,111,109,101,114,47,97,110,115,119,101,114,46,97,103,103,114,101,103,97,116,101,115,36,match i with|0=>49|1=>50|2=>51|3=>52|_=>53])
def uv(i:Nat):FuncId:=match i with|0=>335|1=>337|2=>339|3=>340|_=>341
def Xd:((a_ PP.funcs.size).filter λf=>(PP.funcs[f]?).any (·.name.toUTF8.data.toList==(di 49).1::(di 49).2))=[331]:=U
def Xe:((a_ PP.funcs.size).filter λf=>(PP.funcs[f]?).any (·.name.toUTF8.data.toList==(di 50).1::(di 50).2))=[332]:=U
def Xf:((a_ PP.funcs.size).filter λf=>(PP.funcs[f]?).any (·.name.toUTF8.data.toList==(di 51).1::(di 51).2))=[333]:=U
def Xg:((a_ PP.funcs.size).filter λf=>(PP.funcs[f]?).any (·.name.toUTF8.data.toList==(di 52).1::(di 52).2))=[334]:=U
def RR:((a_ PP.funcs.size).filter λf=>(PP.funcs[f]?).any (·.name.toUTF8.data.toList==(ig 0).1::(ig 0).2))=[uv 0]:=U
def RS:((a_ PP.funcs.size).filter λf=>(PP.funcs[f]?).any (·.name.toUTF8.data.toList==(ig 1).1::(ig 1).2))=[uv 1]:=U
def RT:((a_ PP.funcs.size).filter λf=>(PP.funcs[f]?).any (·.name.toUTF8.data.toList==(ig 2).1::(ig 2).2))=[uv 2]:=U
def RU:((a_ PP.funcs.size).filter λf=>(PP.funcs[f]?).any (·.name.toUTF8.data.toList==(ig 3).1::(ig 3).2))=[uv 3]:=U
def RV:((a_ PP.funcs.size).filter λf=>(PP.funcs[f]?).any (·.name.toUTF8.data.toList==(ig 4).1::(ig 4).2))=[uv 4]:=U
def U2(i:Nat)(hi:i<5):((a_ PP.funcs.size).filter λf=>(PP.funcs[f]?).any (·.name.toUTF8.data.toList==(ig i).1::(ig i).2))=[uv i]:=by
 match i,hi with
 |0,_=>exact RR
 |1,_=>exact RS
 |2,_=>exact RT
 |3,_=>exact RU
 |4,_=>exact RV
 |i+5,h=>exact absurd h O
end
end
end Go.Sx
