/- Lemmas, part 3. -/
import Derived.Laws.Build
import Derived.Test.YtoijalagmmgkbaaGreatDoorX02
import Derived.Laws.BytesArg
import Derived.Laws.IdiomStrings
import Derived.Laws.MakeOwn
import Derived.Lib.Builder
set_option linter.all false
set_option linter.defProp false
set_option maxRecDepth 1000000
namespace Go.Sx
open Go
open Option renaming some->M,bind_eq_some_iff->a_,none->b_,map_eq_some_iff->c_,map_some->l_,isSome_none->r_
open Decidable renaming decide->z
open List renaming range->d_,getElem?_map->e_,getD_eq_getElem?_getD->f_,map_cons->i_,all_eq_true->n_,take_succ_eq_append_getElem->s_,length_take->u_,length_map->v_,setIfInBounds_toArray->x_,map_nil->A_,set_append_right->C_,mem_cons_of_mem->D_,drop_set_of_lt->F_,getElem?_drop->G_,mem_cons_self->H_,length_cons->I_,getElem_mem->J_,foldlM_cons->L_,flatMap_def->M_,replicate->Q_,mem_range->R_,take_set->S_,mem_map->W_,range'->Y_
open _root_.Array renaming getElem?_toList->g_,length_toList->m_,ext'->p_,getElem?_modify->B_,range->V_
open Nat renaming mul_le_mul_right->h_,add_mul->j_,add_assoc->k_,beq->t_,min_eq_left->w_,mod_lt->y_,blt->K_,le_of_lt->X_,succ_mul->Z_
open Go.IntKind renaming i64->o_
open Go.Value renaming int->q_,cells->U_
open AV renaming one->z_,agg->E_,cells?->P_,k9->T_,int->b?
noncomputable section
def mw(b:Nat->Option (Nat×Nat))(cs:List AV):List (Nat×AV)->Option (List AV)
 |[]=>M cs
 |(i,a)::rest=>
  match b i,a.cells? with
  |some (off,size),M xs=>if xs.length=size/\off+size<=cs.length then mw b (cs.take off++xs++cs.drop (off+size)) rest else b_
  |_,_=>b_
def vi{b}:∀{e c d},mw b c e=M d->c.all z_=true->d.all z_=true
 |[],c,d,h,h1=>by simp only[mw,fE]at h;rw[<-h];exact h1
 |(i,a)::e,c,d,h,h1=>by
  simp only[mw]at h
  split at h
  ·rename_i off size zs g f
   split at h
   ·refine vi h ?_
    have j:=T_ f
    grind
   ·cases h
  ·cases h
def HG{us:List Value}:∀(vs)(off),off+vs.length<=us.length->
  ((vs.toArray.zipIdx.foldl (λcs (x:Value×Nat)=>cs.setIfInBounds (off+x.2) x.1) us.toArray))=(us.take off++vs++us.drop (off+vs.length)).toArray:=by
 intro vs off h
 have key:∀(vs:List Value)(us:List Value)(k:Nat),off+k+vs.length<=us.length->
   ((vs.zipIdx k).foldl (λ(cs:Array Value) (x:Value×Nat)=>cs.setIfInBounds (off+x.2) x.1) us.toArray)=(us.take (off+k)++vs++us.drop (off+k+vs.length)).toArray:=by
  intro vs
  induction vs with
  |nil=>intro us k _;simp
  |cons v vs b=>
   intro us k c
   simp only[I_]at c
   simp only[List.zipIdx_cons,List.foldl_cons,x_]
   rw[b (us.set (off+k) v) (k+1) zJ]
   congr 1
   have a:off+k<us.length:=O
   rw[S_,F_ O]
   have:off+(k+1)=off+k+1:=O
   rw[this,s_ a]
   rw[C_ _ _ zJ]
   simp[u_,w_ (X_ a)]
   congr 1
   omega
 grind
def PR(ρ:Env):List (Nat×AV)->List (Nat×Value)->Prop
 |[],a=>a=[]
 |p::b,a=> ∃v rest,a=(p.1,v)::rest/\VR ρ p.2 v/\PR ρ b rest
def PR.of_map{ρ}{ev:Operand->AV}{e:Operand->Value}(h:∀x,VR ρ (ev x) (e x)):∀a:List (Nat×Operand),PR ρ (a.map λp=>(p.1,ev p.2)) (a.map λp=>(p.1,e p.2))
 |[]=>by simp[PR]
 |p::a=>⟨_,_,rfl,h _,PR.of_map h a⟩
def q5{ρ b}:∀{l e cs c vs},mw b cs l=M c->
  PR ρ l e->aU ρ cs vs->∃d,Instr.fill b vs.toArray e=M d.toArray/\aU ρ c d
 |[],e,cs,c,vs,h,hq,f=>by
  simp only[PR]at hq
  subst hq
  simp only[mw,fE]at h
  subst h
  exact⟨vs,rfl,f⟩
 |(i,a)::l,e,cs,c,vs,h,hq,f=>by
   obtain⟨v,e,rfl,m,hq⟩:=hq
   simp only[mw]at h
   split at h
   ·rename_i off size s p q
    split at h
    ·rename_i hl
     have g:=VR.cells m q
     have j:=g.length_eq
     have n:=f.length_eq
     have o:v.cells.size=size:=by rw[<-m_,<-j];exact hl.1
     have k:=HG (us:=vs) v.cells.toList off O
     rw[Array.toArray_toList,show off+v.cells.toList.length=off+size by omega]at k
     obtain⟨d,e1,r⟩:=q5 (vs:=vs.take off++v.cells.toList++vs.drop (off+size)) h hq (((f.take off).append g).append (f.drop _))
     refine⟨d,?_,r⟩
     simp only[Instr.fill,p,o]
     simp_all
    ·cases h
   ·cases h
section
theorem aU.vj{ρ}:∀{as vs},as.length=vs.length->(∀(i:Nat) a v,as[i]? =M a->vs[i]? =M v->VR ρ a v)->aU ρ as vs
 |[],vs,h,_=>by simp at h;simp[aU,List.length_eq_zero_iff.1 h.symm]
 |a::as,[],h,_=>by simp at h
 |a::as,v::vs,h,k=>aU.aL.2 ⟨k 0 a v A A,aU.vj (by simpa using h) λi a' b c d=>k (i+1) a' b (by simpa using c) (by simpa using d)⟩
section
variable {R:Type} {X:RI R} {sem:R->Prop} (hX:X.Ok sem) {I:ba} {P:Program} (hI:I.Ok P) {H:AH}
def placesOf(I:ba):List (TypeId×Nat)->Option (List (Nat×Nat))
 |[]=>M []
 |(t,o)::r=>match I.size t,placesOf I r with
  |some n,M l=>M ((o,n)::l)
  |_,_=>b_
theorem Bs{α a:Type}(P)(w)(f:α->Sem a)(g):∀l:List α,(∀x∈l,(f x).run P w= .ok (g x) w)->(l.mapM f).run P w= .ok (l.map g) w
 |[],_=>zA
 |x::l,h=>by
  have b:=Bs P w f g l ZD
  simp_all
theorem q6{I}:∀{b:List Field}{pl},placesOf I (b.map λf=>(f.type,f.offset))=M pl->∀f∈b,∃n,I.size f.type=M n
 |[],_,_,f,a=>by cases a
 |g::b,pl,h,f,a=>by
  simp only[i_,placesOf]at h
  split at h
  ·rename_i n l hn hl
   rcases List.mem_cons.1 a with rfl|a
   ·exact⟨n,hn⟩
   ·exact q6 hl f a
  ·cases h
theorem tF{I}:∀{a:List Field}{pl},placesOf I (a.map λf=>(f.type,f.offset))=M pl->a.map (λf=>(f.offset,(I.size f.type).getD 0))=pl
 |[],pl,h=>by simp only[A_,placesOf,fE]at h;subst h;rfl
 |g::a,pl,h=>by
  simp only[i_,placesOf]at h
  split at h
  ·rename_i n l hn hl
   cases h
   simp[hn,tF hl]
  ·cases h
def DL(I:ba)(t:TypeId)(parts:List (Nat×AV)):Option AV :=
 match I.zero t,I.dI t with
 |some (.agg zs),M (.struct _)=>(I.fields t).bind λl=>(placesOf I l).bind λpl=>(mw (pl[·]?) zs parts).map .agg
 |some (.agg zs),M (.array _ e)=>(I.size e).bind λm=>(mw (λi=>M (i*m,m)) zs parts).map .agg
 |_,_=>b_
include hI in
theorem HH{t:TypeId}{parts:List (Nat×AV)}{a:AV}(h:DL I t parts=M a){ρ:Env}{s:List (Nat×Value)}(hq:PR ρ parts s)(w:World):
  ∃v,(Instr.build t s.toArray).run P w= .ok v w/\VR ρ a v:=by
 unfold DL at h
 split at h
 ·rename_i zs g i d
  simp only[a_,c_]at h
  obtain⟨l,j,pl,u,cs,k,rfl⟩:=h
  obtain⟨b,e1,o⟩:=hI.mq w i
  have c:=o ρ
  simp only[VR]at c
  obtain⟨us,rfl,p⟩:=c
  obtain⟨x,y,rfl,_⟩:=hI.fields t l j
  have B:g=x:=by have:=hI.dI t _ d;rw[y]at this;cases this;rfl
  subst B
  obtain⟨vs,q,r⟩:=q5 k hq p
  refine⟨.agg vs.toArray,?_,by simp only[VR];exact⟨vs,rfl,r⟩⟩
  have C:(g.mapM (λf=>do pure (f.offset,<-sizeOf f.type):Field->Sem (Nat×Nat))).run P w= .ok pl.toArray w:=by
   rw[Array.mapM_eq_mapM_toList]
   have:=Bs P w (λf=>do pure (f.offset,<-sizeOf f.type):Field->Sem (Nat×Nat)) (λf=>(f.offset,(I.size f.type).getD 0)) g.toList (λf D=>by
    obtain⟨n,hn⟩:=q6 u f D
    simp[hI.ca w hn,hn])
   rw[Sem.run_map,this,tF u]
   rfl
  simp only[Instr.build,Sem.run_bind,e1,Result.andThen_ok,hI.aW w d,C,U_]
  simp[q]
 ·rename_i zs n e i d
  simp only[a_,c_]at h
  obtain⟨m,j,cs,k,rfl⟩:=h
  obtain⟨b,e1,o⟩:=hI.mq w i
  have c:=o ρ
  simp only[VR]at c
  obtain⟨us,rfl,p⟩:=c
  obtain⟨vs,q,r⟩:=q5 k hq p
  refine⟨.agg vs.toArray,?_,by simp only[VR];exact⟨vs,rfl,r⟩⟩
  simp[Instr.build,e1,hI.aW w d,hI.ca w j,U_,q]
 ·cases h
def oh(X:RI R)(I:ba)(t:TypeId)(len:Nat)(parts:List (Nat×AV))(H:AH)(K:AV->AH->R):R :=
 match I.dI t with
 |some (.slice e)=>
  match I.size e,(I.zero e).bind P_ with
  |some m,M zs=>
   if len*m<=2^24/\0<m/\zs.length=m then
    match mw (λi=>M (i*m,m)) ((d_ (len*m)).map λi=>zs.getD (i%m) .any) parts with
    |some cs=>K (.slice H.n 0 0 len (M len) m) (H.new (.cells cs (.ty e)))
    |none=>X.fail
   else X.fail
  |_,_=>X.fail
 |_=>X.fail
include hX hI in
theorem vk{t:TypeId}{len:Nat}{parts:List (Nat×AV)}{K:AV->AH->R}(h:sem (oh X I t len parts H K)):
  ∃a H',sem (K a H')/\∀c ρ w C,PR ρ parts C->Rel c ρ H w->fx P (Instr.buildSlice t len C.toArray) c ρ w a H':=by
 unfold oh at h
 split at h
 ·rename_i e hd
  split at h
  ·rename_i m zs hm U
   split at h
   ·rename_i hc
    obtain⟨ad,k,f⟩:=hc
    split at h
    ·rename_i cs D
     refine⟨_,_,h,λc ρ w C hq hr=>?_⟩
     simp only[a_]at U
     obtain⟨za,E,l⟩:=U
     obtain⟨b,e1,e2⟩:=hI.mq w E
     have V:=VR.cells (e2 ρ) l
     have e4:=V.length_eq
     have F:b.cells.size=m:=by rw[<-m_,<-e4,f]
     have n:aU ρ ((d_ (len*m)).map λi=>zs.getD (i%m) .any) ((d_ (len*m)).map λi=>b.cells[i%b.cells.size]!):=by
      refine aU.vj zA λi a v o q=>?_
      simp only[e_,c_]at o q
      obtain⟨x,hx,rfl⟩:=o
      obtain⟨y,W,rfl⟩:=q
      have G:x=y:=by rw[hx]at W;cases W;rfl
      subst G
      have d:x%m<zs.length:=by rw[f];exact y_ _ k
      have hg:zs[x%m]? =M (zs.getD (x%m) .any):=by rw[f_,mo d];rfl
      obtain⟨u,J,L⟩:=V.get (x%m) hg
      have:b.cells[x%b.cells.size]! =u:=by
       rw[F]
       have h3:b.cells[x%m]? =M u:=by rw[<-g_];exact J
       rw[getElem!_def,h3]
      rw[this]
      exact L
     obtain⟨vs,N,Y⟩:=q5 D hq n
     have g:((V_ (len*m)).map λx=>b.cells[x%b.cells.size]!)=((d_ (len*m)).map λi=>b.cells[i%b.cells.size]!).toArray:=by
      apply p_;simp
     have j:cs.all z_=true:=by
      refine vi D ?_
      rw[n_]
      intro x hx
      simp only[W_]at hx
      obtain⟨i,_,rfl⟩:=hx
      have d:i%m<zs.length:=by rw[f];exact y_ _ k
      rw[f_,mo d]
      exact List.all_eq_true.1 (T_ l) _ (J_ d)
     refine fx.row (mk:=λa=> .slice (M a) len len) (el:=e) hr Y j ?_ λρ' Q=>?_
     ·simp only[Instr.buildSlice,Sem.run_bind,hI.aW w hd,Result.andThen_ok,hI.ca w hm]
      rw[if_neg O]
      by_cases S:len*m=0
      ·have o:(d_ (len*m)).map (λi=>b.cells[i%b.cells.size]!)=[]:=by simp[S]
       rw[o]at N
       have q:V_ 0=(#[]:Array Nat):=rfl
       simp[S,q,N,newRow]
      ·simp[S,e1,g,N,newRow]
     ·simp only[VR]
      have Z:=Y.length_eq
      have ag:cs.length=len*m:=by
       have key:∀(r:List (Nat×AV))(s B:List AV),mw (λi=>M (i*m,m)) s r=M B->B.length=s.length:=by
        intro r
        induction r with
        |nil=>intro s B h;simp only[mw,fE]at h;rw[h]
        |cons p r ih=>
         intro s B h
         obtain⟨i,a⟩:=p
         simp only[mw]at h
         split at h
         ·rename_i off size ai hp _
          cases hp
          split at h
          ·rename_i hl
           rw[ih _ _ h]
           simp;omega
          ·cases h
         ·cases h
       rw[key _ _ _ D];simp
      exact⟨_,_,len,_,Q,rfl,dw _,λ_=>⟨zA,by simp;omega⟩,λc' T=>by cases T;rfl⟩
    ·exact zR
   ·exact zR
  ·exact zR
 ·exact zR
end
end
section
section
variable {R:Type} {X:RI R} {sem:R->Prop} (hX:X.Ok sem) {I:ba} {P:Program} (hI:I.Ok P)
def Yields(P:Program)(H:AH)(s:Value->Sem Value)(x a:AV):Prop := ∀c ρ w v,VR ρ x v->Rel c ρ H w->∃u,(s v).run P w= .ok u w/\VR ρ a u
def q7(P:Program)(H:AH)(s:Value->Value->Sem Value)(x y a:AV):Prop := ∀c ρ w v u,VR ρ x v->VR ρ y u->Rel c ρ H w->∃b,(s v u).run P w= .ok b w/\VR ρ a b
def ql(X:RI R)(I:ba)(t:TypeId)(p:AV)(f:Nat)(K:AV->R):R :=
 match p,(I.fields t).bind (·[f]?)with
 | .ptr l k e j,M (a,o)=>match I.size a with
  |some (_+1)=>K (.ptr l k e (j+o))
  |_=>X.fail
 | .fc cs j,M (a,o)=>match I.size a with
  |some (_+1)=>K (.fc cs (j+o))
  |_=>X.fail
 |_,_=>X.fail
include hX hI in
theorem xI{t:TypeId}{p:AV}{f:Nat}{K:AV->R}(H:AH)(h:sem (ql X I t p f K)):∃a,sem (K a)/\Yields P H (λv=>Instr.fieldAt t v f) p a:=by
 unfold ql at h
 split at h
 ·rename_i l k e j E o d
  split at h
  ·rename_i n hn
   refine⟨_,h,λc ρ w v i F=>?_⟩
   simp only[VR]at i
   obtain⟨b,N,G,rfl⟩:=i
   simp only[a_]at d
   obtain⟨fl,s,m⟩:=d
   obtain⟨r,e1,rfl,_⟩:=hI.fields t fl s
   simp only[e_,c_,Prod.mk.injEq]at m
   obtain⟨g,u,rfl,rfl⟩:=m
   have x:r[f]? =M g:=by rw[<-g_];exact u
   have y:(underlying t).run P w= .ok (.struct r) w:=by simp[underlying,e1]
   refine⟨.pointer (M ⟨b,k*e+(j+g.offset),b_⟩),?_,by simp only[VR];exact⟨b,N,G,rfl⟩⟩
   simp[Instr.fieldAt,Instr.sureAddr,y,x,fieldPlace,hI.ca w hn,addr_add,k_]
  ·exact zR
 ·rename_i cs j E o d
  split at h
  ·rename_i n hn
   refine⟨_,h,λc ρ w v i F=>?_⟩
   simp only[VR]at i
   obtain⟨b,q,B,rfl,C,D⟩:=i
   simp only[a_]at d
   obtain⟨fl,s,m⟩:=d
   obtain⟨r,e1,rfl,_⟩:=hI.fields t fl s
   simp only[e_,c_,Prod.mk.injEq]at m
   obtain⟨g,u,rfl,rfl⟩:=m
   have x:r[f]? =M g:=by rw[<-g_];exact u
   have y:(underlying t).run P w= .ok (.struct r) w:=by simp[underlying,e1]
   refine⟨.pointer (M ⟨b,q+(j+g.offset),b_⟩),?_,by simp only[VR];exact⟨b,q,B,rfl,C,D⟩⟩
   simp[Instr.fieldAt,Instr.sureAddr,y,x,fieldPlace,hI.ca w hn,addr_add,k_]
  ·exact zR
 ·exact zR
def DM(X:RI R)(I:ba)(t:TypeId)(x:AV)(f:Nat)(K:AV->R):R :=
 match x,(I.fields t).bind (·[f]?)with
 | .agg cs,M (b,o)=>match apart I b cs o with
  |some a=>K a
  |none=>X.fail
 |_,_=>X.fail
include hX hI in
theorem HI{t:TypeId}{x:AV}{f:Nat}{K:AV->R}(H:AH)(h:sem (DM X I t x f K)):∃a,sem (K a)/\Yields P H (λv=>Instr.field t v f) x a:=by
 unfold DM at h
 split at h
 ·rename_i cs r o d
  split at h
  ·rename_i a ha
   refine⟨_,h,λc ρ w v e s=>?_⟩
   simp only[VR]at e
   obtain⟨vs,rfl,b⟩:=e
   simp only[a_]at d
   obtain⟨fl,k,i⟩:=d
   obtain⟨j,e1,rfl,_⟩:=hI.fields t fl k
   simp only[e_,c_,Prod.mk.injEq]at i
   obtain⟨g,l,rfl,rfl⟩:=i
   have m:j[f]? =M g:=by rw[<-g_];exact l
   have n:(underlying t).run P w= .ok (.struct j) w:=by simp[underlying,e1]
   obtain⟨u,p,q⟩:=QI hI ha b w
   exact⟨u,by simp[Instr.field,n,m,asAgg,p],q⟩
  ·exact zR
 ·exact zR
def RC(X:RI R)(I:ba)(t:TypeId)(x i:AV)(K:AV->R):R :=
 match i with
 | .int _ i=>
  match I.dI t,x with
  |some (.array n e),.ptr l k a j=>match I.size e with
   |some m=>X.bq (z (0<=i)&&z (i<n)) (K (match a with|0=> .ptr l i.toNat m j|_=> .ptr l k a (j+i.toNat*m)))
   |none=>X.fail
  |some (.slice e),.slice l base k len _ e1=>match I.size e with
   |some m=>if m=e1 then X.bq (z (0<=i)&&z (i<len)) (K (.ptr l (k+i.toNat) m base))else X.fail
   |none=>X.fail
  |some (.slice e),.own l len e1=>match I.size e with
   |some m=>if m=e1 then X.bq (z (0<=i)&&z (i<len)) (K (.ptr l i.toNat m 0))else X.fail
   |none=>X.fail
  |some (.array n e),.fc cs j=>match I.size e with
   |some m=>X.bq (z (0<=i)&&z (i<n)) (K (.fc cs (j+i.toNat*m)))
   |none=>X.fail
  |some (.slice e),.ab len e1 f=>match I.size e with
   |some m=>if m=e1 then X.bq (z (0<=i)&&z (i<len)) (K (.fc (f i.toNat) 0))else X.fail
   |none=>X.fail
  |_,_=>X.fail
 |_=>X.fail
include hX hI in
theorem xJ{t:TypeId}{x i:AV}{K:AV->R}(H:AH)(h:sem (RC X I t x i K)):∃a,sem (K a)/\q7 P H (λv u=>Instr.indexAt t v u) x i a:=by
 unfold RC at h
 split at h
 ·rename_i T i
  split at h
  ·rename_i n e l k J j r
   split at h
   ·rename_i m s
    obtain⟨d,y⟩:=hX.bq _ _ h
    simp only[bf,bn]at d
    refine⟨_,y,λc ρ w v u g o G=>?_⟩
    simp only[VR]at g o
    obtain⟨b,N,E,rfl⟩:=g
    subst o
    refine⟨.pointer (M ⟨b,k*J+j+i.toNat*m,b_⟩),?_,?_⟩
    ·simp[Instr.indexAt,asIntOf,hI.aW w r,Instr.sureAddr,d.1,d.2,hI.ca w s,addr_add]
    ·cases J with
     |zero=>simp only[VR];exact⟨b,N,E,by simp;omega⟩
     |succ J=>simp only[VR];exact⟨b,N,E,by simp[k_]⟩
   ·exact zR
  ·rename_i e l F k len cap e1 r
   split at h
   ·rename_i m s
    split at h
    ·rename_i p
     subst p
     obtain⟨d,y⟩:=hX.bq _ _ h
     simp only[bf,bn]at d
     refine⟨_,y,λc ρ w v u g o G=>?_⟩
     simp only[VR]at g o
     obtain⟨b,N,L,a,E,rfl,hl,Q,_⟩:=g
     subst o
     obtain⟨rfl,_⟩:=Q O
     refine⟨.pointer (M ⟨b,F+k*m+i.toNat*m,b_⟩),?_,?_⟩
     ·simp[Instr.indexAt,asIntOf,hI.aW w r,d.1,d.2,hI.ca w s,addr_add]
     ·simp only[VR];exact⟨b,N,E,by simp[j_];omega⟩
    ·exact zR
   ·exact zR
  ·rename_i e l len e1 r
   split at h
   ·rename_i m s
    split at h
    ·rename_i p
     subst p
     obtain⟨d,y⟩:=hX.bq _ _ h
     simp only[bf,bn]at d
     refine⟨_,y,λc ρ w v u g o G=>?_⟩
     simp only[VR]at g o
     subst o
     rcases g with⟨S,_⟩|⟨b,N,L,E,rfl,hl,Q⟩
     ·omega
     refine⟨.pointer (M ⟨b,i.toNat*m,b_⟩),?_,?_⟩
     ·simp[Instr.indexAt,asIntOf,hI.aW w r,d.1,d.2,hI.ca w s,addr_add]
     ·simp only[VR];exact⟨b,N,E,zA⟩
    ·exact zR
   ·exact zR
  ·rename_i n e cs j r
   split at h
   ·rename_i m s
    obtain⟨d,y⟩:=hX.bq _ _ h
    simp only[bf,bn]at d
    refine⟨_,y,λc ρ w v u g o G=>?_⟩
    simp only[VR]at g o
    obtain⟨b,q,C,rfl,D,B⟩:=g
    subst o
    refine⟨.pointer (M ⟨b,q+j+i.toNat*m,b_⟩),?_,?_⟩
    ·simp[Instr.indexAt,asIntOf,hI.aW w r,Instr.sureAddr,d.1,d.2,hI.ca w s,addr_add]
    ·simp only[VR];exact⟨b,q,C,by simp[k_],D,B⟩
   ·exact zR
  ·rename_i e len e1 f r
   split at h
   ·rename_i m s
    split at h
    ·rename_i p
     subst p
     obtain⟨d,y⟩:=hX.bq _ _ h
     simp only[bf,bn]at d
     refine⟨_,y,λc ρ w v u g o G=>?_⟩
     simp only[VR]at g o
     subst o
     rcases g with⟨S,_⟩|⟨b,q,L,a,C,rfl,hl,g⟩
     ·omega
     obtain⟨rfl,D,B⟩:=g O
     refine⟨.pointer (M ⟨b,q+i.toNat*m,b_⟩),?_,?_⟩
     ·simp[Instr.indexAt,asIntOf,hI.aW w r,d.1,d.2,hI.ca w s,addr_add]
     ·simp only[VR];exact⟨b,q+i.toNat*m,C i.toNat,zA,D.row (λi hi=>(B i hi).1) O,(B i.toNat O).2⟩
    ·exact zR
   ·exact zR
  ·exact zR
 ·exact zR
def AV.isInt(k:IntKind):AV->Bool
 | .int a _=>z (a=k)
 |_=>false
def AV.intOf:AV->Int
 | .int _ n=>n
 |_=>0
def yg(cs:List AV)(i:Nat):Int:=(cs.map AV.intOf).getD i 0
def DN(X:RI R)(I:ba)(t:TypeId)(x i:AV)(K:AV->R):R :=
 match i with
 | .int _ i=>
  match I.dI t,x with
  |some (.array n e),.agg cs=>match I.dI e with
   |some (.int k)=>if cs.all (AV.isInt k)=true/\cs.length=n/\I.size e=M 1 then X.bq (z (0<=i)&&z (i<n)) (K (.int k (yg cs i.toNat)))else X.fail
   |_=>match I.size e with
    |some m=>X.bq (z (0<=i)&&z (i<n)) (match apart I e cs (i.toNat*m)with|some a=>K a|none=>X.fail)
    |none=>X.fail
  |some .string,.str s=>X.bq (z (0<=i)&&z (i<s.length)) (K (.int .u8 (s.getD i.toNat 0).toNat))
  |_,_=>X.fail
 |_=>X.fail
include hX hI in
theorem HJ{t:TypeId}{x i:AV}{K:AV->R}(H:AH)(h:sem (DN X I t x i K)):∃a,sem (K a)/\q7 P H (λv u=>Instr.index t v u) x i a:=by
 unfold DN at h
 split at h
 ·rename_i Q i
  split at h
  ·rename_i n e cs r
   split at h
   ·rename_i k G
    split at h
    ·rename_i J
     obtain⟨q,E,o⟩:=J
     obtain⟨f,p⟩:=hX.bq _ _ h
     simp only[bf,bn]at f
     refine⟨_,p,λc ρ w v u j l F=>?_⟩
     simp only[VR]at j l
     obtain⟨vs,rfl,g⟩:=j
     subst l
     have b:i.toNat<cs.length:=O
     have y:cs[i.toNat]? =M cs[i.toNat]:=mo b
     have d:=List.all_eq_true.1 q cs[i.toNat] (J_ b)
     obtain⟨u,e1,S⟩:=g.get i.toNat y
     have ha:apart I e cs (i.toNat*1)=M cs[i.toNat]:=by simp[apart,G,TypeDesc.agg,y]
     obtain⟨B,C,D⟩:=QI hI ha g w
     refine⟨B,by simp[Instr.index,asIntOf,hI.aW w r,f.1,f.2,hI.ca w o];simpa using C,?_⟩
     have:cs[i.toNat]= .int k (yg cs i.toNat):=by
      unfold yg
      rw[f_,e_,y]
      cases hx:cs[i.toNat]with
      |int T U=>rw[hx]at d;simp[AV.isInt]at d;simp[AV.intOf,d]
      |_=>rw[hx]at d;simp[AV.isInt]at d
     rw[<-this];exact D
    ·exact zR
   ·split at h
    ·rename_i m L
     obtain⟨f,p⟩:=hX.bq _ _ h
     simp only[bf,bn]at f
     split at p
     ·rename_i a ha
      refine⟨_,p,λc ρ w v u j l F=>?_⟩
      simp only[VR]at j l
      obtain⟨vs,rfl,g⟩:=j
      subst l
      obtain⟨B,C,D⟩:=QI hI ha g w
      exact⟨B,by simp[Instr.index,asIntOf,hI.aW w r,f.1,f.2,hI.ca w L,C],D⟩
     ·exact absurd p hX.fail
    ·exact zR
  ·rename_i s r
   obtain⟨f,p⟩:=hX.bq _ _ h
   simp only[bf,bn]at f
   refine⟨_,p,λc ρ w v u j l F=>?_⟩
   simp only[VR]at j l
   subst j l
   have b:i.toNat<s.length:=O
   refine⟨.int .u8 (s.getD i.toNat 0).toNat,?_,zB⟩
   have N:(⟨s.toArray⟩:ByteArray)[i.toNat]? =M (s.getD i.toNat 0):=by
    rw[f_,mo b]
    have o:i.toNat<(⟨s.toArray⟩:ByteArray).size:=by simpa [ByteArray.size]using b
    rw[getElem?_pos (⟨s.toArray⟩:ByteArray) i.toNat o]
    rfl
   simp[Instr.index,asIntOf,hI.aW w r,f.1,N]
  ·exact zR
 ·exact zR
def Pg(X:RI R)(I:ba)(t:TypeId)(x:AV)(H:AH)(K:AV->R):R :=
 match I.dI t,x with
 |some .string,.str s=>K (.int o_ s.length)
 |some (.slice _),.slice _ _ _ len _ _=>K (.int o_ len)
 |some (.slice _),.own _ len _=>K (.int o_ len)
 |some (.slice _),.aw=>K (.int o_ 0)
 |some (.array n _),_=>K (.int o_ n)
 |some (.map _ _),.map b_=>K (.int o_ 0)
 |some (.map _ _),.map (M l)=>match H.get l with
  | .map es=>match dL es with|true=>X.fail|false=>K (.int o_ es.length)
  |_=>X.fail
 |some (.slice _),.ab len _ _=>K (.int o_ len)
 |_,_=>X.fail
include hX hI in
theorem Ga{t:TypeId}{x:AV}{H:AH}{K:AV->R}(h:sem (Pg X I t x H K))(k:Array TypeId)(ht:k[0]? =M t)(ty:TypeId):
  ∃a,sem (K a)/\Yields P H (λv=>Builtin.len_ k ty #[v]) x a:=by
 unfold Pg at h
 split at h
 case h_1 s e=>
  refine⟨_,h,λc ρ w v d f=>⟨.int o_ s.length,?_,zB⟩⟩
  simp only[VR]at d;subst d
  have m:(⟨s.toArray⟩:ByteArray).size=s.length:=by simp[ByteArray.size]
  simp[Builtin.len_,ht,hI.aW w e,goInt,m]
 case h_2 len _ _ e=>
  refine⟨_,h,λc ρ w v d f=>⟨.int o_ len,?_,zB⟩⟩
  simp only[VR]at d;obtain⟨_,_,_,_,_,rfl,_⟩:=d;simp[Builtin.len_,ht,hI.aW w e,goInt]
 case h_3 len _ e=>
  refine⟨_,h,λc ρ w v d f=>⟨.int o_ len,?_,zB⟩⟩
  simp only[VR]at d;rcases d with⟨rfl,rfl⟩|⟨_,_,_,_,rfl,_⟩<;>simp[Builtin.len_,ht,hI.aW w e,goInt]
 case h_4 e=>
  refine⟨_,h,λc ρ w v d f=>⟨.int o_ 0,?_,zB⟩⟩
  simp only[VR]at d;subst d;simp[Builtin.len_,ht,hI.aW w e,goInt]
 case h_5 n _ e=>
  exact⟨_,h,λc ρ w v d f=>⟨.int o_ n,by simp[Builtin.len_,ht,hI.aW w e,goInt],zB⟩⟩
 case h_6 e=>
  refine⟨_,h,λc ρ w v d f=>⟨.int o_ 0,?_,zB⟩⟩
  simp only[VR]at d;subst d;simp[Builtin.len_,ht,hI.aW w e,goInt]
 case h_7 l e=>
  split at h
  ·rename_i o i
   split at h
   ·exact zR
   rename_i j
   refine⟨_,h,λc ρ w v d f=>?_⟩
   simp only[VR]at d
   obtain⟨b,N,p,rfl⟩:=d
   have:=f.dF l
   rw[i,p]at this
   obtain⟨y,B,ms,g,e1,q,Kf,_⟩:=this
   obtain⟨r,C⟩:=Kf.plain j
   cases e1
   have hl:=r.length_eq
   simp only[v_]at hl
   refine⟨.int o_ o.length,?_,zB⟩
   have u:(getObj b).run P w= .ok (.map ms.toArray g) w:=by simp[getObj,Sem.run,q]
   simp[Builtin.len_,ht,hI.aW w e,goInt,u,hl]
  ·exact zR
 case h_8 len _ _ e=>
  refine⟨_,h,λc ρ w v d f=>⟨.int o_ len,?_,zB⟩⟩
  simp only[VR]at d;rcases d with⟨rfl,rfl⟩|⟨_,_,_,_,_,rfl,_⟩<;>simp[Builtin.len_,ht,hI.aW w e,goInt]
 case h_9=>exact zR
end
end
section
section
variable {R:Type} {X:RI R} {sem:R->Prop} (hX:X.Ok sem) {I:ba} {P:Program} (hI:I.Ok P)
def dh(x:Option AV)(d:Nat):Option Int :=
 match x with
 |none=>M d
 |some (.int _ n)=>M n
 |_=>b_
def lf(x:Option AV)(v:Option Value):Prop :=
 match x,v with
 |none,b_=>True
 |some a,M u=> ∀k n,a= .int k n->u= .int k n
 |_,_=>False
def PH(X:RI R)(I:ba)(t:TypeId)(x:AV)(lo hi mx:Option AV)(H:AH)(K:AV->R):R :=
 match I.dI t,x with
 |some (.array n e),.ptr l k d j=>
  match I.size e,dh lo 0,dh hi n,mx with
  |some m,M a,M b,b_=>
   match(H.get l).at k d j (n*m)with
   |some (ok,_)=>X.bq (z (0<=a)&&z (a<=b)&&z (b<=n)&&ok) (K (.slice l (k*d+j) a.toNat (b-a).toNat (M (n-a.toNat)) m))
   |none=>X.fail
  |_,_,_,_=>X.fail
 |some .string,.str s=>
  match dh lo 0,dh hi s.length,mx with
  |some a,M b,b_=>X.bq (z (0<=a)&&z (a<=b)&&z (b<=s.length)) (K (.str ((s.drop a.toNat).take (b.toNat-a.toNat))))
  |_,_,_=>X.fail
 |some (.slice e),.slice l base k len cap e1=>
  match I.size e,dh lo 0,dh hi len,mx,dh mx len with
  |some m,M a,M b,b_,_=>
   if m=e1 then X.bq (z (0<=a)&&z (a<=b)&&z (b<=len)) (K (.slice l base (k+a.toNat) (b-a).toNat (cap.map (· - a.toNat)) m))else X.fail
  |some m,M a,M b,M _,M c=>
   if m=e1/\hi.isSome=true then X.bq (z (0<=a)&&z (a<=b)&&z (b<=c)&&z (c<=len)) (K (.slice l base (k+a.toNat) (b-a).toNat (M (c-a).toNat) m))else X.fail
  |_,_,_,_,_=>X.fail
 |some (.slice e),.aw=>
  match I.size e,dh lo 0,dh hi 0,mx,dh mx 0 with
  |some _,M a,M b,b_,_=>X.bq (z (0<=a)&&z (a<=b)&&z (b<=0)) (K .aw)
  |some _,M a,M b,M _,M c=>if hi.isSome=true then X.bq (z (0<=a)&&z (a<=b)&&z (b<=c)&&z (c<=0)) (K .aw)else X.fail
  |_,_,_,_,_=>X.fail
 |some (.slice e),.own l len e1=>
  match I.size e,lo,dh hi len,mx,dh lo 0,dh mx len with
  |some m,b_,M b,b_,_,_=>if m=e1 then X.bq (z (0<=b)&&z (b<=len)) (K (.own l b.toNat m))else X.fail
  |some m,_,M b,b_,M a,_=>if m=e1 then X.bq (z (0<=a)&&z (a<=b)&&z (b<=len)&&z (0<len)) (K (.slice l 0 a.toNat (b-a).toNat b_ m))else X.fail
  |some m,_,M b,M _,M a,M c=>
   if m=e1/\hi.isSome=true then X.bq (z (0<=a)&&z (a<=b)&&z (b<=c)&&z (c<=len)&&z (0<len)) (K (.slice l 0 a.toNat (b-a).toNat (M (c-a).toNat) m))else X.fail
  |_,_,_,_,_,_=>X.fail
 |some (.slice e),.ab len e1 f=>
  match I.size e,dh lo 0,dh hi len,mx with
  |some m,M a,M b,b_=>
   if m=e1 then X.bq (z (0<=a)&&z (a<=b)&&z (b<=len)) (K (.ab (b-a).toNat m (λi=>f (a.toNat+i))))else X.fail
  |_,_,_,_=>X.fail
 |_,_=>X.fail
theorem yh{P w x v a}{h:Nat}{code}(b:lf x v)(ha:dh x 0=M a)(c:0<=a)(d:a<=h):
  (match(generalizing:=false) v with
  |some v=>Instr.sliceBound v h code
  |none=>pure 0:Sem Nat).run P w= .ok a.toNat w:=by
 cases x with
 |none=>cases v with
  |none=>simp[dh]at ha;subst ha;simp
  |some v=>exact b.elim
 |some x=>cases v with
  |none=>exact b.elim
  |some v=>cases x with
   |int k n=>
    simp only[dh,fE]at ha
    subst ha
    have:=b k n A
    subst this
    simp[Instr.sliceBound,asIntOf,c,d]
   |_=>simp[dh]at ha
theorem DO{P w x v b}{d c:Nat}{code}(a:lf x v)(ha:dh x d=M b)(e:0<=b)(f:b<=c)(_:d<=c):
  (match(generalizing:=false) v with
  |some v=>Instr.sliceBound v c code
  |none=>pure d:Sem Nat).run P w= .ok b.toNat w:=by
 cases x with
 |none=>cases v with
  |none=>simp[dh]at ha;subst ha;simp
  |some v=>exact a.elim
 |some x=>cases v with
  |none=>exact a.elim
  |some v=>cases x with
   |int k n=>
    simp only[dh,fE]at ha
    subst ha
    have:=a k n A
    subst this
    simp[Instr.sliceBound,asIntOf,e,f]
   |_=>simp[dh]at ha
theorem fe{P w lo hi c d a b isSlice len cap}(f:lf lo c)(g:lf hi d)(ha:dh lo 0=M a)(h:dh hi len=M b)
  (i:0<=a) (k:a<=b) (l:b<=len) (j:len<=cap):(Instr.sliceBounds isSlice len cap c d b_).run P w= .ok (a.toNat,b.toNat,cap) w:=by
 have e1:∀code,(match(generalizing:=false) d with
  |some v=>Instr.sliceBound v cap code
  |none=>pure len:Sem Nat).run P w= .ok b.toNat w:=λcode=>DO (code:=code) g h O O j
 have e:∀code,(match(generalizing:=false) c with
  |some v=>Instr.sliceBound v b.toNat code
  |none=>pure 0:Sem Nat).run P w= .ok a.toNat w:=λcode=>yh (code:=code) f ha i O
 cases d<;>cases c<;>simp[Instr.sliceBounds]at e1 e⊢ <;>simp[e1,e]
theorem oi{P w lo hi mx d e f a b c}{len cap:Nat}(m:lf lo d)(i:lf hi (M e))(j:lf mx (M f))(ha:dh lo 0=M a)(g:dh hi len=M b)(h:dh mx len=M c)
  (o:0<=a) (s:a<=b) (t:b<=c) (p:c<=cap):(Instr.sliceBounds true len cap d (M e) (M f)).run P w= .ok (a.toNat,b.toNat,c.toNat) w:=by
 have q:∀code,(Instr.sliceBound f cap code).run P w= .ok c.toNat w:=λcode=>by
  cases mx with
  |none=>exact j.elim
  |some x=>cases x with
   |int k n=>
    simp only[dh,fE]at h;subst h
    have:=j k n A;subst this
    simp[Instr.sliceBound,asIntOf,show(0:Int)<=n by omega,p]
   |_=>simp[dh]at h
 have e1:∀code,(Instr.sliceBound e c.toNat code).run P w= .ok b.toNat w:=λcode=>by
  cases hi with
  |none=>exact i.elim
  |some x=>cases x with
   |int k n=>
    simp only[dh,fE]at g;subst g
    have:=i k n A;subst this
    have r:n<=(c.toNat:Int):=O
    simp only[Instr.sliceBound,asIntOf,Sem.run_bind,Sem.run_pure,Result.andThen_ok,show(0:Int)<=n by omega,r,and_self,if_true]
   |_=>simp[dh]at g
 have l:∀code,(match(generalizing:=false) d with
  |some v=>Instr.sliceBound v b.toNat code
  |none=>pure 0:Sem Nat).run P w= .ok a.toNat w:=λcode=>yh (code:=code) m ha o O
 cases d<;>simp[Instr.sliceBounds]at l⊢ <;>simp[q,e1,l]
theorem DP(b o m cap a):∃x,(if cap=a then(⟨b,o,b_⟩:Addr)else Addr.add ⟨b,o,b_⟩ (a*m))=x/\(0<cap-a->x=⟨b,o+a*m,b_⟩):=by
 refine⟨_,rfl,λh=>?_⟩
 rw[if_neg O,addr_add]
include hX hI in
theorem yi{t:TypeId}{x:AV}{lo hi mx:Option AV}{K:AV->R}(H:AH)(h:sem (PH X I t x lo hi mx H K)):
  ∃a,sem (K a)/\∀c ρ w v Z V D,VR ρ x v->lf lo Z->lf hi V->lf mx D->Rel c ρ H w->∃u,(Instr.sliceAt t v Z V D).run P w= .ok u w/\VR ρ a u:=by
 unfold PH at h
 split at h
 case h_1 n e l k e0 j Y=>
  split at h
  ·rename_i m a b S ha G
   split at h
   ·rename_i ok xs a6
    obtain⟨B,T⟩:=hX.bq _ _ h
    simp only[bf,bn]at B
    obtain⟨⟨⟨W,J⟩,L⟩,rfl⟩:=B
    refine⟨_,T,λc ρ w v Z V D d o g p hr=>?_⟩
    simp only[VR]at d
    obtain⟨bb,N,E,rfl⟩:=d
    have ai:=hr.dF l
    rw[E]at ai
    obtain⟨us,_,_,hN,_⟩:=eT.F6 ai a6
    cases D with
    |some _=>exact p.elim
    |none=>
     have e1:=fe (P:=P) (w:=w) (isSlice:=false) (len:=n) (cap:=n) o g ha G W J L (dw _)
     obtain⟨y,hy,a7⟩:=DP bb (k*e0+j) m n a.toNat
     refine⟨.slice (M y) (b.toNat-a.toNat) (n-a.toNat),?_,?_⟩
     ·simp[Instr.sliceAt,hI.aW w Y,Instr.sureAddr,e1,hI.ca w S,<-hy]
     ·simp only[VR]
      refine⟨bb,N,n-a.toNat,y,E,by congr 1;omega,O,λhp=>⟨a7 hp,?_⟩,λc' Q=>by cases Q;rfl⟩
      have:a.toNat*m+(n-a.toNat)*m=n*m:=by rw[<-j_];congr 1;omega
      omega
   ·exact zR
  ·exact zR
 case h_2 s Y=>
  split at h
  ·rename_i a b ha G
   obtain⟨B,T⟩:=hX.bq _ _ h
   simp only[bf,bn]at B
   obtain⟨⟨W,J⟩,L⟩:=B
   refine⟨_,T,λc ρ w v Z V D d o g p hr=>?_⟩
   simp only[VR]at d
   subst d
   cases D with
   |some _=>exact p.elim
   |none=>
    have hz:(⟨s.toArray⟩:ByteArray).size=s.length:=by simp[ByteArray.size]
    have e1:=fe (P:=P) (w:=w) (isSlice:=false) (len:=s.length) (cap:=s.length) o g ha G W J L (dw _)
    refine⟨_,by simp[Instr.sliceAt,hI.aW w Y,Instr.slice,hz,e1];rfl,?_⟩
    simp only[VR]
    congr 1
    apply ByteArray.ext
    simp[List.extract_eq_take_drop]
  ·exact zR
 case h_3 e l base k len cap e1 Y=>
  split at h
  ·rename_i m a b S ha G
   split at h
   ·rename_i r
    subst r
    obtain⟨B,T⟩:=hX.bq _ _ h
    simp only[bf,bn]at B
    obtain⟨⟨W,J⟩,L⟩:=B
    refine⟨_,T,λc ρ w v Z V D d o g p hr=>?_⟩
    simp only[VR]at d
    obtain⟨bb,N,C,x,E,rfl,hl,U,ak⟩:=d
    cases D with
    |some _=>exact p.elim
    |none=>
     have F:=fe (P:=P) (w:=w) (isSlice:=true) (len:=len) (cap:=C) o g ha G W J L hl
     refine⟨.slice (M (if C=a.toNat then x else x.add (a.toNat*m))) (b.toNat-a.toNat) (C-a.toNat),?_,?_⟩
     ·simp only[Instr.sliceAt,Sem.run_bind,hI.aW w Y,Result.andThen_ok,Instr.slice,F,hI.ca w S,Sem.run_pure]
      split<;>simp
     ·simp only[VR]
      refine⟨bb,N,C-a.toNat,_,E,by congr 1;omega,O,λhp=>?_,λc' Q=>?_⟩
      ·obtain⟨rfl,hN⟩:=U O
       rw[if_neg O,addr_add]
       have:a.toNat*m+(C-a.toNat)*m=C*m:=by rw[<-j_];congr 1;omega
       have e3:(k+a.toNat)*m=k*m+a.toNat*m:=j_ _ _ _
       exact⟨by rw[e3,k_],O⟩
      ·simp only[c_]at Q
       obtain⟨c0,h0,rfl⟩:=Q
       rw[ak c0 h0]
   ·exact zR
  ·rename_i m a b _ cv S ha G ad
   split at h
   ·rename_i r
    obtain⟨r,ag⟩:=r
    subst r
    obtain⟨B,T⟩:=hX.bq _ _ h
    simp only[bf,bn]at B
    obtain⟨⟨⟨W,J⟩,L⟩,h4⟩:=B
    refine⟨_,T,λc ρ w v Z V D d o g p hr=>?_⟩
    simp only[VR]at d
    obtain⟨bb,N,C,x,E,rfl,hl,U,ak⟩:=d
    cases D with
    |none=>exact p.elim
    |some D=>
     cases V with
     |none=>cases hi<;>first|(simp at ag;done)|exact g.elim
     |some V=>
      have F:=oi (P:=P) (w:=w) (len:=len) (cap:=C) o g p ha G ad W J L O
      refine⟨.slice (M (if cv.toNat=a.toNat then x else x.add (a.toNat*m))) (b.toNat-a.toNat) (cv.toNat-a.toNat),?_,?_⟩
      ·simp only[Instr.sliceAt,Sem.run_bind,hI.aW w Y,Result.andThen_ok,Instr.slice,F,hI.ca w S,Sem.run_pure]
       split<;>simp
      ·simp only[VR]
       refine⟨bb,N,cv.toNat-a.toNat,_,E,by congr 1;omega,O,λhp=>?_,λc' Q=>by cases Q;omega⟩
       obtain⟨rfl,hN⟩:=U O
       rw[if_neg O,addr_add]
       have:a.toNat*m+(cv.toNat-a.toNat)*m<=C*m:=by rw[<-j_];exact h_ _ O
       have e3:(k+a.toNat)*m=k*m+a.toNat*m:=j_ _ _ _
       exact⟨by rw[e3,k_],O⟩
   ·exact zR
  ·exact zR
 case h_4 e Y=>
  split at h
  ·rename_i m a b S ha G
   obtain⟨B,T⟩:=hX.bq _ _ h
   simp only[bf,bn]at B
   obtain⟨⟨W,J⟩,L⟩:=B
   refine⟨_,T,λc ρ w v Z V D d o g p hr=>?_⟩
   simp only[VR]at d
   subst d
   cases D with
   |some _=>exact p.elim
   |none=>
    have F:=fe (P:=P) (w:=w) (isSlice:=true) (len:=0) (cap:=0) o g ha G W J (by simpa using L) (dw _)
    have h4:a.toNat=0:=O
    have h5:b.toNat=0:=O
    rw[h4,h5]at F
    exact⟨_,by simp[Instr.sliceAt,hI.aW w Y,Instr.slice,F,hI.ca w S];rfl,zB⟩
  ·rename_i m a b _ cv S ha G ad
   split at h
   ·rename_i ag
    obtain⟨B,T⟩:=hX.bq _ _ h
    simp only[bf,bn]at B
    obtain⟨⟨⟨W,J⟩,L⟩,h4⟩:=B
    refine⟨_,T,λc ρ w v Z V D d o g p hr=>?_⟩
    simp only[VR]at d
    subst d
    cases D with
    |none=>exact p.elim
    |some D=>
     cases V with
     |none=>cases hi<;>first|(simp at ag;done)|exact g.elim
     |some V=>
      have F:=oi (P:=P) (w:=w) (len:=0) (cap:=0) o g p ha G ad W J L (by simpa using h4)
      have h5:a.toNat=0:=O
      have h6:b.toNat=0:=O
      have h7:cv.toNat=0:=O
      rw[h5,h6,h7]at F
      exact⟨_,by simp[Instr.sliceAt,hI.aW w Y,Instr.slice,F,hI.ca w S];rfl,zB⟩
   ·exact zR
  ·exact zR
 case h_5 e l len e1 Y=>
  split at h
  ·rename_i m b S G
   split at h
   ·rename_i r
    subst r
    obtain⟨B,T⟩:=hX.bq _ _ h
    simp only[bf,bn]at B
    obtain⟨J,L⟩:=B
    refine⟨_,T,λc ρ w v Z V D d o g p hr=>?_⟩
    cases D with
    |some _=>exact p.elim
    |none=>
    cases Z with
    |some _=>exact o.elim
    |none=>
     simp only[VR]at d⊢
     rcases d with⟨rfl,rfl⟩|⟨bb,N,C,E,rfl,hl,U⟩
     ·have F:=fe (P:=P) (w:=w) (isSlice:=true) (len:=0) (cap:=0) o g A G (Int.le_refl 0) J (by simpa using L) (dw _)
      have h5:b.toNat=0:=O
      rw[h5]at F⊢
      exact⟨.slice b_ 0 0,by simp[Instr.sliceAt,hI.aW w Y,Instr.slice,F,hI.ca w S],.inl ⟨rfl,rfl⟩⟩
     ·have F:=fe (P:=P) (w:=w) (isSlice:=true) (len:=len) (cap:=C) o g A G (Int.le_refl 0) J L hl
      refine⟨.slice (M ⟨bb,0,b_⟩) b.toNat C,?_,.inr ⟨bb,N,C,E,rfl,O,U⟩⟩
      simp only[Instr.sliceAt,Sem.run_bind,hI.aW w Y,Result.andThen_ok,Instr.slice,F,hI.ca w S,Sem.run_pure]
      split<;>simp[addr_add]
   ·exact zR
  ·rename_i m b a S _ G ha
   split at h
   ·rename_i r
    subst r
    obtain⟨B,T⟩:=hX.bq _ _ h
    simp only[bf,bn]at B
    obtain⟨⟨⟨W,J⟩,L⟩,h4⟩:=B
    refine⟨_,T,λc ρ w v Z V D d o g p hr=>?_⟩
    cases D with
    |some _=>exact p.elim
    |none=>
     simp only[VR]at d⊢
     rcases d with⟨rfl,rfl⟩|⟨bb,N,C,E,rfl,hl,U⟩
     ·omega
     ·have F:=fe (P:=P) (w:=w) (isSlice:=true) (len:=len) (cap:=C) o g ha G W J L hl
      refine⟨.slice (M (if C=a.toNat then⟨bb,0,b_⟩else Addr.add ⟨bb,0,b_⟩ (a.toNat*m))) (b.toNat-a.toNat) (C-a.toNat),?_,?_⟩
      ·simp only[Instr.sliceAt,Sem.run_bind,hI.aW w Y,Result.andThen_ok,Instr.slice,F,hI.ca w S,Sem.run_pure]
       split<;>simp
      ·refine⟨bb,N,C-a.toNat,_,E,by congr 1;omega,O,λhp=>?_,λc' Q=>by cases Q⟩
       rw[if_neg O,addr_add]
       have:a.toNat*m+(C-a.toNat)*m=C*m:=by rw[<-j_];congr 1;omega
       exact⟨rfl,O⟩
   ·exact zR
  ·rename_i m b _ a cv S G ha ad
   split at h
   ·rename_i r
    obtain⟨r,ag⟩:=r
    subst r
    obtain⟨B,T⟩:=hX.bq _ _ h
    simp only[bf,bn]at B
    obtain⟨⟨⟨⟨W,J⟩,L⟩,h4⟩,h5⟩:=B
    refine⟨_,T,λc ρ w v Z V D d o g p hr=>?_⟩
    simp only[VR]at d⊢
    rcases d with⟨rfl,rfl⟩|⟨bb,N,C,E,rfl,hl,U⟩
    ·omega
    cases D with
    |none=>exact p.elim
    |some D=>
     cases V with
     |none=>cases hi<;>first|(simp at ag;done)|exact g.elim
     |some V=>
      have F:=oi (P:=P) (w:=w) (len:=len) (cap:=C) o g p ha G ad W J L O
      refine⟨.slice (M (if cv.toNat=a.toNat then⟨bb,0,b_⟩else Addr.add ⟨bb,0,b_⟩ (a.toNat*m))) (b.toNat-a.toNat) (cv.toNat-a.toNat),?_,?_⟩
      ·simp only[Instr.sliceAt,Sem.run_bind,hI.aW w Y,Result.andThen_ok,Instr.slice,F,hI.ca w S,Sem.run_pure]
       split<;>simp
      ·refine⟨bb,N,cv.toNat-a.toNat,_,E,by congr 1;omega,O,λhp=>?_,λc' Q=>by cases Q;omega⟩
       rw[if_neg O,addr_add]
       have:a.toNat*m+(cv.toNat-a.toNat)*m<=C*m:=by rw[<-j_];exact h_ _ O
       exact⟨rfl,O⟩
   ·exact zR
  ·exact zR
 case h_6 e len e1 f Y=>
  split at h
  ·rename_i m a b S ha G
   split at h
   ·rename_i r
    subst r
    obtain⟨B,T⟩:=hX.bq _ _ h
    simp only[bf,bn]at B
    obtain⟨⟨W,J⟩,L⟩:=B
    refine⟨_,T,λc ρ w v Z V D d o g p hr=>?_⟩
    cases D with
    |some _=>exact p.elim
    |none=>
     simp only[VR]at d⊢
     rcases d with⟨rfl,rfl⟩|⟨bb,q,C,x,a8,rfl,hl,U⟩
     ·have F:=fe (P:=P) (w:=w) (isSlice:=true) (len:=0) (cap:=0) o g ha G W J (by simpa using L) (dw _)
      have h4:a.toNat=0:=O
      have h5:b.toNat=0:=O
      rw[h4,h5]at F
      exact⟨.slice b_ 0 0,by simp[Instr.sliceAt,hI.aW w Y,Instr.slice,F,hI.ca w S],.inl ⟨O,rfl⟩⟩
     ·have F:=fe (P:=P) (w:=w) (isSlice:=true) (len:=len) (cap:=C) o g ha G W J L hl
      refine⟨.slice (M (if C=a.toNat then x else x.add (a.toNat*m))) (b.toNat-a.toNat) (C-a.toNat),?_,?_⟩
      ·simp only[Instr.sliceAt,Sem.run_bind,hI.aW w Y,Result.andThen_ok,Instr.slice,F,hI.ca w S,Sem.run_pure]
       split<;>simp
      ·refine .inr ⟨bb,q+a.toNat*m,C-a.toNat,_,λi=>a8 (a.toNat+i),by congr 1;omega,O,λhp=>?_⟩
       obtain⟨rfl,bc,ap⟩:=U O
       rw[if_neg O,addr_add]
       exact⟨rfl,bc.part (λi hi=>(ap i hi).1) O,λi hi=>ap _ O⟩
   ·exact zR
  ·exact zR
 case h_7=>exact zR
def Kt(X:RI R)(wr:Bool)(op:UnOp)(x:AV)(K:AV->R):R :=
 match op,x with
 | .neg,.int k n=>X.bq (fits wr k (0-n)).1 (K (.int k (fits wr k (0-n)).2))
 | .xor,.int k n=>K (.int k (bitsOf .xor k (if k.signed then -1 else k.max) n))
 | .not,.bool b=>K (.bool (!b))
 |_,_=>X.fail
include hX in
theorem Ku{wr:Bool}{op:UnOp}{x:AV}{K:AV->R}(H:AH)(h:sem (Kt X wr op x K)):∃a,sem (K a)/\Yields P H (λv=>Op.unary op v) x a:=by
 unfold Kt at h
 split at h
 ·rename_i k n
  obtain⟨d,e⟩:=hX.bq _ _ h
  have:=nq (wr:=wr) (k:=k) (n:=0-n) (m:=(fits wr k (0-n)).2) (by rw[<-d])
  exact⟨_,e,λc ρ w v b _=>⟨.int k (fits wr k (0-n)).2,by simp only[VR]at b;subst b;simp only[Op.unary,Op.intArith,this,Sem.run_pure],zB⟩⟩
 ·rename_i k n
  exact⟨_,h,λc ρ w v b _=>⟨_,by simp only[VR]at b;subst b;simp only[Op.unary,Op.intBits,Sem.run_pure];rfl,by simp only[VR,bitsOf]⟩⟩
 ·exact⟨_,h,λc ρ w v b _=>⟨_,by simp only[VR]at b;subst b;simp only[Op.unary,Sem.run_pure];rfl,zB⟩⟩
 ·exact zR
end
end
section
section
variable {R:Type} {X:RI R} {sem:R->Prop} (hX:X.Ok sem) {I:ba} {P:Program} (hI:I.Ok P)
def AV.pW:AV->Bool
 | .int .u8 n=>z (0<=n)&&z (n<=255)
 |_=>false
def AV.byte(a:AV):UInt8:=UInt8.ofNat a.intOf.toNat
def eT.bytes:eT->(o len:Nat)->Option (Bool×List UInt8)
 | .cells cs _,o,len=>M (z (o+len<=cs.length)&&((cs.drop o).take len).all AV.pW,((cs.drop o).take len).map AV.byte)
 | .str s _,0,len=>M (z (len=s.length),s)
 | .str s _,o+1,len=>M (z (o+1+len<=s.length),(s.drop (o+1)).take len)
 | .rows m 1 f _,o,len=>M (z (o+len<=m)&&(d_ len).all (λi=>match f (o+i)with|[a]=>a.pW|_=>false),(d_ len).map λi=>((f (o+i)).headD .any).byte)
 |_,_,_=>b_
theorem Gb{ρ a v}(h:VR ρ a v)(b:a.pW =true):v= .int .u8 (a.byte.toNat:Int):=by
 cases a with
 |int k n=>
  cases k<;>simp only[AV.pW,kH,bf,bn]at b
  simp only[VR]at h
  subst h
  simp only[AV.byte,AV.intOf]
  congr 1
  have:n.toNat<256:=O
  simp[UInt8.toNat_ofNat',Nat.mod_eq_of_lt this]
  omega
 |_=>simp[AV.pW]at b
theorem qm{n f}(h:∀i,i<n->(f i).length=1){i}(hi:i<n){a}(ha:f i=[a]):(rowsOf n f)[i]? =M a:=by
 obtain⟨t,ht⟩:=lL h hi
 rw[Nat.mul_one]at ht
 have:((rowsOf n f).drop i)[0]? =(rowsOf n f)[i]? :=by rw[G_];simp
 grind
theorem eT.vl{ρ:Env}{w:World}{r N:Nat}{b:eT}{o len:Nat}{y:List UInt8}(h:bp ρ w (M (r,N)) b)(ha:b.bytes o len=M (true,y)):
  y.length=len/\o+len<=N/\∀j (t:j<y.length),w.cell? ⟨r,o+j,b_⟩=M (.int .u8 (y[j].toNat:Int)):=by
 have key:∀(cs:List AV) rw,aJ ρ w (M (r,N)) cs rw->∀i a,cs[i]? =M a->i<N/\∃v,w.cell? ⟨r,i,b_⟩=M v/\VR ρ a v:=by
  intro cs rw B i a hi
  rcases B with⟨_,C⟩|⟨b,L,vs,rest,el,fr,h1,I,D,E,_⟩
  ·cases C
  ·cases h1
   obtain⟨v,d,c⟩:=E.get i hi
   have u:=(List.getElem?_eq_some_iff.1 d).1
   refine⟨by simp at D;omega,v,?_,c⟩
   simp only[World.cell?,I,r_,kH,if_false]
   grind
 have l:∀(cs:List AV) rw,aJ ρ w (M (r,N)) cs rw->cs.length<=N:=by
  intro cs rw B
  rcases B with⟨_,C⟩|⟨b,L,vs,rest,el,fr,h1,I,D,E,_⟩
  ·cases C
  ·cases h1
   have:=E.length_eq
   simp at D;omega
 cases b with
 |cells cs rw=>
  simp only[eT.bytes,fE,Prod.mk.injEq,bf,bn]at ha
  obtain⟨⟨hl,q⟩,rfl⟩:=ha
  have F:=l cs rw h
  refine⟨by simp;omega,O,λj t=>?_⟩
  simp only[v_,u_,List.length_drop]at t
  have u:o+j<cs.length:=O
  obtain⟨_,v,d,c⟩:=key cs rw h (o+j) cs[o+j] (mo u)
  have P:cs[o+j]∈(cs.drop o).take len:=by
   rw[List.mem_iff_getElem?]
   exact⟨j,Y⟩
  have:=Gb c Y
  grind
 |rows m e f rw=>
  cases e with
  |zero=>simp[eT.bytes]at ha
  |succ e=>cases e with
   |succ e=>simp[eT.bytes]at ha
   |zero=>
    simp only[eT.bytes,fE,Prod.mk.injEq,bf,bn]at ha
    obtain⟨⟨hl,q⟩,rfl⟩:=ha
    have F:=l _ rw h.2
    rw[nX h.1]at F
    refine⟨zA,O,λj t=>?_⟩
    simp only[v_,List.length_range]at t
    have G:=List.all_eq_true.1 q j (List.mem_range.2 t)
    split at G
    ·rename_i a H
     obtain⟨_,v,d,c⟩:=key _ rw h.2 (o+j) a (qm h.1 O H)
     have:=Gb c G
     grind
    ·cases G
 |str s rw=>
  have F:=l _ rw h
  have J:(byteCells s).length=s.length:=by simp[byteCells]
  have K:∀i (hi:i<s.length),w.cell? ⟨r,i,b_⟩=M (.int .u8 (s[i].toNat:Int)):=by
   intro i hi
   obtain⟨_,v,d,c⟩:=key _ rw h i (.int .u8 s[i].toNat) (by simp[byteCells,mo hi])
   simp only[VR]at c
   rw[d,c]
  cases o with
  |zero=>
   simp only[eT.bytes,fE,Prod.mk.injEq,bn]at ha
   grind
  |succ o=>
   simp only[eT.bytes,fE,Prod.mk.injEq,bn]at ha
   grind
 |map|loop|tE|iter|iy|dX|cT|dead=>simp[eT.bytes]at ha
def PI(X:RI R)(I:ba)(e:TypeId)(x:AV)(H:AH)(K:AV->R):R :=
 match x with
 | .slice l base k len _ 1=>
  match I.dI e,(H.get l).bytes (base+k*1) len with
  |some (.int .u8),M (ok,a)=>X.bq (ok&&z (0<len)) (K (.str a))
  |_,_=>X.fail
 | .own l len 1=>
  match I.dI e,(H.get l).bytes 0 len with
  |some (.int .u8),M (ok,a)=>X.bq ok (K (.str a))
  |_,_=>X.fail
 | .aw=>
  match I.dI e with
  |some (.int .u8)=>K (.str [])
  |_=>X.fail
 |_=>X.fail
include hX hI in
theorem yj{i dst e:TypeId}(t:I.dI i=M (.slice e))(y:I.dI dst=M .string){x:AV}{H:AH}{K:AV->R}(h:sem (PI X I e x H K)):
  ∃a,sem (K a)/\∀c ρ w v,VR ρ x v->Rel c ρ H w->∃u,(convert i dst v).run P w= .ok u w/\VR ρ a u:=by
 unfold PI at h
 split at h
 case h_1 l base k len cap=>
  split at h
  ·rename_i ok p q d
   obtain⟨B,D⟩:=hX.bq _ _ h
   simp only[bf,bn]at B
   obtain⟨rfl,J⟩:=B
   refine⟨_,D,λc ρ w v n C=>⟨.string ⟨p.toArray⟩,?_,zB⟩⟩
   simp only[VR]at n
   obtain⟨b,N,E,a,o,rfl,hl,r,_⟩:=n
   obtain⟨rfl,_⟩:=r O
   have g:=C.dF l
   rw[o]at g
   obtain⟨e1,L,F⟩:=eT.vl g d
   subst e1
   exact run_convert_bytes_back w i dst e _ E p (hI.dI _ _ t) (hI.dI _ _ q) (hI.dI _ _ y) λj G=>by rw[addr_add];exact F j G
  ·exact zR
 case h_2 l len=>
  split at h
  ·rename_i ok p q d
   obtain⟨B,D⟩:=hX.bq _ _ h
   subst B
   refine⟨_,D,λc ρ w v n C=>⟨.string ⟨p.toArray⟩,?_,zB⟩⟩
   simp only[VR]at n
   rcases n with⟨rfl,rfl⟩|⟨b,N,E,o,rfl,hl,r⟩
   ·have e1:p=[]:=by
     cases hx:H.get l with
     |cells cs rw=>rw[hx]at d;simp[eT.bytes]at d;exact d
     |rows m e f rw=>
      rw[hx]at d
      cases e with
      |zero=>simp[eT.bytes]at d
      |succ e=>cases e with
       |succ e=>simp[eT.bytes]at d
       |zero=>simp[eT.bytes]at d;exact d
     |str s rw=>rw[hx]at d;simp[eT.bytes]at d;exact List.eq_nil_of_length_eq_zero (by rw[<-d.2];exact d.1.symm)
     |map|loop|tE|iter|iy|dX|cT|dead=>rw[hx]at d;simp[eT.bytes]at d
    subst e1
    rw[run_convert_bytes_nil w i e (hI.dI _ _ t) (hI.dI _ _ q) 0 0 dst (hI.dI _ _ y)]
    rfl
   ·have g:=C.dF l
    rw[o]at g
    obtain⟨e1,L,F⟩:=eT.vl g d
    subst e1
    exact run_convert_bytes_back w i dst e _ E p (hI.dI _ _ t) (hI.dI _ _ q) (hI.dI _ _ y) λj G=>by rw[addr_add];exact F j G
  ·exact zR
 case h_3=>
  split at h
  ·rename_i q
   refine⟨_,h,λc ρ w v n C=>⟨.string ⟨#[]⟩,?_,zB⟩⟩
   simp only[VR]at n;subst n
   rw[run_convert_bytes_nil w i e (hI.dI _ _ t) (hI.dI _ _ q) 0 0 dst (hI.dI _ _ y)]
   rfl
  ·exact zR
 case h_4=>exact zR
def vm(X:RI R)(I:ba)(a dst:TypeId)(x:AV)(H:AH)(K:AV->AH->R):R :=
 match I.dI a,I.dI dst,x with
 |some _,M (.int k),.int _ n=>X.bq (fits I.wr k n).1 (K (.int k (fits I.wr k n).2) H)
 |some _,M .string,.str s=>K (.str s) H
 |some .string,M (.slice e),.str s=>
  match I.dI e with
  |some (.int .u8)=>K (.slice H.n 0 0 s.length b_ 1) (H.new (.str s (.ty e)))
  |_=>X.fail
 |some (.slice e),M .string,x=>PI X I e x H (λv=>K v H)
 |some (.pointer t),M .unsafePointer,.ptr l k e j=>
  match I.size t,H.get l with
  |some (_+1),.cells cs _=>X.bq (z (k*e+j<cs.length)) (K (.ptr l k e j) H)
  |_,_=>X.fail
 |some .unsafePointer,M (.pointer u),.ptr l k e j=>
  match I.size u,H.get l with
  |some (n+1),.cells cs (.ty t)=>X.bq (t_ t u&&t_ (k*e+j) 0&&z (n+1<=cs.length)) (K (.ptr l k e j) H)
  |_,_=>X.fail
 |_,_,_=>X.fail
theorem DQ{P u n}(b:P.cellsOf u=n+1){c}(e:1<=c):liesAt P P.depth u c 0 u 1=true:=by
 have a:∃d,P.depth=d+1:=⟨_,rfl⟩
 obtain⟨d,a⟩:=a
 have f:sameLayout P P.depth u u=true:=by rw[a];simp[sameLayout]
 have g:rowAt P (sameLayout P P.depth · u) P.depth u c 0 1=true:=by
  rw[a]
  simp only[rowAt,b]
  rw[<-a]
  simp[f,e]
 rw[a]
 simp only[liesAt]
 rw[g];rfl
theorem aJ.shape{ρ:Env}{w:World}{r N:Nat}{cs:List AV}{a:Access}(h:aJ ρ w (M (r,N)) cs a):∃el,w.shape? r=M (el,N)/\cs.length<=N/\∀t,a= .ty t->el=t:=by
 rcases h with⟨_,c⟩|⟨b,l,vs,rest,el,fr,h1,d,f,i,j,_⟩
 ·cases c
 ·cases h1
  have:=i.length_eq
  refine⟨el,by simp only[World.shape?,d];grind,by simp at f;omega,j.ty⟩
include hX hI in
theorem Bt{E dst:TypeId}{x:AV}{H:AH}{K:AV->AH->R}(h:sem (vm X I E dst x H K)):
  ∃a H',sem (K a H')/\∀c ρ w v,VR ρ x v->Rel c ρ H w->fx P (convert E dst v) c ρ w a H':=by
 unfold vm at h
 split at h
 case h_1 d k k0 n q r=>
  obtain⟨o,y⟩:=hX.bq _ _ h
  have:=nq (wr:=I.wr) (k:=k) (n:=n) (m:=(fits I.wr k n).2) (by rw[<-o])
  refine⟨_,_,y,λc ρ w v f p=>fx.same (v:=.int k (fits I.wr k n).2) ?_ p zB⟩
  simp only[VR]at f;subst f
  simp only[convert,Sem.run_bind,hI.aW w q,hI.aW w r,Result.andThen_ok]
  cases d<;>simp[Conv.intToInt,this]
 case h_2 d s q r=>
  refine⟨_,_,h,λc ρ w v f p=>fx.same (v:=v) ?_ p f⟩
  simp only[VR]at f;subst f
  simp only[convert,Sem.run_bind,hI.aW w q,hI.aW w r,Result.andThen_ok]
  cases d<;>simp
 case h_3 e s q r=>
  split at h
  ·rename_i F
   refine⟨_,_,h,λc ρ w v f p=>?_⟩
   simp only[VR]at f;subst f
   have e1:=run_bytes_of_string (P:=P) w E dst e ⟨s.toArray⟩ (hI.dI _ _ q) (hI.dI _ _ r) (hI.dI _ _ F)
   have Z:(⟨s.toArray⟩:ByteArray).size=s.length:=by simp[ByteArray.size]
   rw[Z]at e1
   generalize hg:grownCap w s.length 0 e=D at e1
   have Q:s.length<=D:=by rw[<-hg];simp[grownCap,Question.cut]
   have G:(bytesRow ⟨s.toArray⟩ D)=((s.map λb=>q_ .u8 b.toNat)++Q_ (D-s.length) (q_ .u8 0)).toArray:=by
    simp[bytesRow,Z]
   have S:=p.drawn (w.drawn+1)
   have B:∀i,i<s.length->((λi=>[b? .u8 (s.getD i 0).toNat]) i).length=1:=λi _=>rfl
   have T:∀ρ':Env,aU ρ' (rowsOf s.length (λi=>[b? .u8 (s.getD i 0).toNat])) (s.map λb=>q_ .u8 b.toNat):=by
    intro ρ'
    refine aU.vj (by rw[nX B];simp) λi a v o y=>?_
    have hi:i<s.length:=by
     have:=(List.getElem?_eq_some_iff.1 y).1
     simpa using this
    rw[qm B hi A]at o
    cases o
    simp only[e_,mo hi,l_,fE]at y
    subst y
    simp[VR,f_,mo hi]
   obtain⟨hx,U⟩:=S.new (.cells (bytesRow ⟨s.toArray⟩ D) e ((bytesRow ⟨s.toArray⟩ D).size,(bytesRow ⟨s.toArray⟩ D).size+1)) D
    (.str s (.ty e)) λw' V=>by
     refine .inr ⟨_,_,s.map (λb=>q_ .u8 b.toNat),Q_ (D-s.length) (q_ .u8 0),e,_,rfl,by rw[<-G];exact V,by simp;omega,(kJ s)▸T _,⟨λ_ i hi=>by rw[G];simp;omega,λe F=>by cases F;rfl,λ_ F=>by cases F⟩,λv f=>?_,λe=>zG⟩
     ·simp only[W_]at f;obtain⟨_,_,rfl⟩:=f;rfl
   refine⟨_,_,_,e1,hx,U,?_,⟨zA,λk hk=>?_⟩⟩
   ·simp only[VR]
    exact⟨w.heap.size,D,D,_,Env.cP _ _ _,rfl,Q,λ_=>⟨zA,O⟩,λc' W=>by cases W⟩
   ·exact iz hk
  ·exact zR
 case h_4 q r ad=>
  obtain⟨a,o,y⟩:=yj hX hI q r h
  exact⟨a,H,o,λc ρ w v f p=>by
   obtain⟨u,J,h4⟩:=y c ρ w v f p
   exact fx.same J p h4⟩
 case h_5 t l k e j q r=>
  split at h
  ·rename_i n cs a hn hl
   obtain⟨o,y⟩:=hX.bq _ _ h
   simp only[bn]at o
   refine⟨_,_,y,λc ρ w v f p=>?_⟩
   have C:=f
   simp only[VR]at C
   obtain⟨b,N,Y,rfl⟩:=C
   have g:=p.dF l
   rw[Y,hl]at g
   obtain⟨el,e1,e2,_⟩:=aJ.shape g
   obtain⟨i,L,i2⟩:=hI.size _ _ hn
   exact fx.same (Lib.run_to_unsafe w ⟨b,k*e+j,b_⟩ (hI.dI _ _ q) (hI.dI _ _ r) L O e1 (O:k*e+j<N)) p f
  ·exact zR
 case h_6 u l k e j q r=>
  split at h
  ·rename_i n cs t hn hl
   obtain⟨o,y⟩:=hX.bq _ _ h
   simp only[bf,bn]at o
   obtain⟨⟨o,J⟩,h4⟩:=o
   have o:=dE o
   have J:=dE J
   subst o
   refine⟨_,_,y,λc ρ w v f p=>?_⟩
   have C:=f
   simp only[VR]at C
   obtain⟨b,N,Y,rfl⟩:=C
   have g:=p.dF l
   rw[Y,hl]at g
   obtain⟨el,e1,e2,e3⟩:=aJ.shape g
   have:=e3 _ A
   subst this
   obtain⟨i,L,i2⟩:=hI.size _ _ hn
   have hc:P.cellsOf el=n+1:=by simp[Program.cellsOf,L,i2]
   refine fx.same (Lib.run_from_unsafe w ⟨b,k*e+j,b_⟩ (hI.dI _ _ q) (hI.dI _ _ r) L e1 ?_) p f
   show liesAt P P.depth el (N/P.cellsOf el) (k*e+j) el 1=true
   rw[J,hc]
   exact DQ hc (by rw[Nat.le_div_iff_mul_le O];omega)
  ·exact zR
 case h_7=>exact zR
end
end
section
section
variable {R:Type} {X:RI R} {sem:R->Prop} (hX:X.Ok sem) {I:ba} {P:Program} (hI:I.Ok P)
theorem PJ{zs n}(a:0<zs.length){i}(hi:i<n*zs.length):(rowsOf n (λ_=>zs))[i]? =zs[i%zs.length]? :=by
 have b:i/zs.length<n:=Nat.div_lt_of_lt_mul Y
 obtain⟨t,ht⟩:=lL (n:=n) (e:=zs.length) (f:=λ_=>zs) (λ_ _=>rfl) b
 have c:i/zs.length*zs.length+i%zs.length=i:=by rw[Nat.mul_comm];exact Nat.div_add_mod i zs.length
 have d:((rowsOf n (λ_=>zs)).drop (i/zs.length*zs.length))[i%zs.length]? =(rowsOf n (λ_=>zs))[i]? :=by rw[G_,c]
 rw[<-d,ht,List.getElem?_append_left (y_ _ a)]
def qn(X:RI R)(I:ba)(t:TypeId)(l c:AV)(H:AH)(K:AV->AH->R):R :=
 match I.dI t,l,c with
 |some (.slice e),.int _ n,.int _ m=>
  match I.size e,I.bytes e,(I.zero e).bind P_ with
  |some sz,M a,M zs=>
   if zs.length=sz/\0<sz then
    X.bq (z (0<=n)&&z (n<=m)&&xF ((a:Int)*m) 281474976710656&&xF m 9223372036854775807)
     (K (.slice H.n 0 0 n.toNat (M m.toNat) sz) (H.new (.rows n.toNat sz (λ_=>zs) (.ty e))))
   else X.fail
  |_,_,_=>X.fail
 |_,_,_=>X.fail
include hX hI in
theorem xK{t:TypeId}{l S:AV}{H:AH}{K:AV->AH->R}(h:sem (qn X I t l S H K)):
  ∃a H',sem (K a H')/\∀c ρ w v u,VR ρ l v->VR ρ S u->Rel c ρ H w->fx P (Instr.makeSlice t v u) c ρ w a H':=by
 unfold qn at h
 split at h
 ·rename_i e k1 n k2 m hd
  split at h
  ·rename_i sz y zs B C T
   split at h
   ·rename_i hc
    obtain⟨f,ad⟩:=hc
    obtain⟨ha,hK⟩:=hX.bq _ _ h
    simp only[bf,bn,iH]at ha
    obtain⟨⟨⟨h1,h2⟩,h3⟩,h4⟩:=ha
    refine⟨_,_,hK,λc ρ w v u s U V=>?_⟩
    simp only[VR]at s U
    subst s U
    simp only[a_]at T
    obtain⟨W,D,k⟩:=T
    obtain⟨i,b,e1,e2,e3⟩:=hI.zero e W D
    obtain⟨i',Y,e5⟩:=hI.size e sz B
    obtain⟨ag,Z,e7⟩:=hI.bytes e y C
    rw[e1]at Y Z
    cases Y
    cases Z
    have d:=VR.cells (jZ ρ b W e3) k
    have E:b.cells.size=sz:=by rw[<-m_,<-d.length_eq,f]
    have run:=run_make (P:=P) w t e i b (hI.dI _ _ hd) e1 e2 k1 k2 n m h1 h2 (by rw[e7];exact h3) h4
    rw[e5]at run
    have o:n.toNat*sz<=m.toNat*sz:=h_ _ O
    have ai:(madeCells b.cells (m.toNat*sz)).toList.length=m.toNat*sz:=by simp[size_madeCells]
    have p:∀j,j<m.toNat*sz->(madeCells b.cells (m.toNat*sz)).toList[j]? =b.cells.toList[j%sz]? :=by
     intro j x
     have q:j%b.cells.size<b.cells.size:=y_ _ O
     simp only[madeCells,Array.toList_map,Array.toList_range,e_,List.getElem?_range x,l_]
     rw[getElem!_pos b.cells _ q,g_,<-E,Array.getElem?_eq_getElem q]
    have r:∀ρ',aU ρ' zs b.cells.toList->aU ρ' (rowsOf n.toNat (λ_=>zs)) ((madeCells b.cells (m.toNat*sz)).toList.take (n.toNat*sz)):=by
     intro ρ' F
     refine aU.vj (by rw[nX (e:=sz) (λ_ _=>f)];simp[size_madeCells,w_ o]) λj a v G h6=>?_
     have x:j<n.toNat*sz:=by
      have:=(List.getElem?_eq_some_iff.1 G).1
      rwa[nX (e:=sz) (λ_ _=>f)]at this
     rw[PJ O (by rw[f];exact x),f]at G
     rw[List.getElem?_take_of_lt x,p j O]at h6
     obtain⟨v',h7,h8⟩:=F.get _ G
     rw[h6]at h7;cases h7;exact h8
    have g:(rowsOf n.toNat (λ_=>zs)).all z_=true:=by
     simp only[rowsOf,List.all_flatMap,n_]
     exactλ_ _=>List.all_eq_true.1 (T_ k)
    obtain⟨hx,J⟩:=V.new (.cells (madeCells b.cells (m.toNat*sz)) e) (m.toNat*sz) (.rows n.toNat sz (λ_=>zs) (.ty e)) λw' L=>by
     refine⟨λ_ _=>f,.inr ⟨_,_,(madeCells b.cells (m.toNat*sz)).toList.take (n.toNat*sz),(madeCells b.cells (m.toNat*sz)).toList.drop (n.toNat*sz),e,(0,0),rfl,?_,by simp[size_madeCells],r _ (aU.ext (Env.nk _ (V.top _ (dw _))) _ _ d),⟨λ_ j _ hh=>by simp at hh,λe N=>by cases N;rfl,λ_ N=>by cases N⟩,λv s=>aU.Kl (r ρ d) g v s,λe=>zG⟩⟩
     rw[List.take_append_drop]
     simpa using L
    refine⟨_,_,_,run,hx,J,?_,mu.push _ _⟩
    simp only[VR]
    exact⟨w.heap.size,m.toNat*sz,m.toNat,_,Env.cP _ _ _,rfl,O,λ_=>⟨zA,O⟩,λc' Q=>by cases Q;rfl⟩
   ·exact zR
  ·exact zR
 ·exact zR
def my:TypeDesc->AV->AV->Option Bool
 | .int _,.int k a,.int c b=>if k=c then M (a==b)else b_
 | .string,.str a,.str b=>M (a==b)
 | .bool,.bool a,.bool b=>M (a==b)
 |_,_,_=>b_
def DR(I:ba)(kt:TypeId)(c:TypeDesc)(a b:AV):Option Bool :=
 match c with
 | .array _ _=>xH I 10000 kt a b
 |c=>my c a b
theorem sw(I)(kt)(c)(h:∀n e,c≠ .array n e):DR I kt c=my c:=by
 funext a b
 unfold DR
 simp
def pX(I:ba)(a:TypeDesc)(k:AV):Bool :=
 match a,k with
 | .array n e,.agg cs=>match I.dI e,I.size e with
  |some (.int _),M m=>(d_ n).all λi=>(apart I e cs (i*m)).isSome
  |_,_=>false
 | .array _ _,_=>false
 |a,k=>(my a k k).isSome
def yl(X:RI R)(eq:AV->AV->Option Bool)(k:AV)(a:R)(found:AV->R):List (AV×AV)->R
 |[]=>a
 |(c,v)::es=>match eq k c with
  |some b=>X.cond b (λ_=>found v) (λ_=>yl X eq k a found es)
  |none=>X.fail
def uH(X:RI R)(I:ba)(t:TypeId)(m k:AV)(ok:Bool)(H:AH)(K:AV->R):R :=
 match I.dI t with
 |some (.map kt e)=>
  match I.dI kt,I.zero e with
  |some b,M a=>
   match(match m with
    | .map b_=>M []
    | .map (M l)=>match H.get l with
     | .map es=>M es
     |_=>b_
    |_=>b_:Option (List (AV×AV)))with
   |some es=>
    match pX I b k with
    |true=>match dL es with
     |false=>yl X (DR I kt b) k (K (bif ok then .qP [a,.bool false]else a)) (λv=>K (bif ok then .qP [v,.bool true]else v)) es
     |true=>match b with
      | .array _ _=>X.fail
      |_=>yl X (my b) k X.fail (λv=>K (bif ok then .qP [v,.bool true]else v)) (gK es)
    |false=>X.fail
   |none=>X.fail
  |_,_=>X.fail
 |_=>X.fail
theorem vn{e a b r}(h:my e a b=M r){ρ u v}(c:VR ρ a u)(d:VR ρ b v):Instr.sameNow e u v=M r:=by
 unfold my at h
 split at h
 ·split at h
  ·rename_i f
   simp only[VR]at c d
   subst c d
   simp[Instr.sameNow,f];grind
  ·cases h
 ·simp only[VR]at c d
  subst c d
  simp only[Instr.sameNow,beq_toListBytes,ByteArray.toList_mk]
  exact h
 ·simp only[VR]at c d
  subst c d
  assumption
 ·cases h
def OH(eq:AV->AV->Option Bool)(k:AV):List (AV×AV)->Option (Option (Nat×AV))
 |[]=>M b_
 |(a,v)::es=>match eq k a with
  |some true=>M (M (0,v))
  |some false=>match OH eq k es with
   |some (M (i,v))=>M (M (i+1,v))
   |r=>r
  |none=>b_
theorem sx{eq:AV->AV->Option Bool}{k:AV}{a:R}{found:AV->R}(hX:X.Ok sem):∀{c:List (AV×AV)},sem (yl X eq k a found c)->
  (sem a/\OH eq k c=M b_)∨∃i v,sem (found v)/\OH eq k c=M (M (i,v))
 |[],h=> .inl ⟨h,rfl⟩
 |(j,v)::c,h=>by
  simp only[yl]at h
  split at h
  ·rename_i b d
   have e:=hX.cond _ _ _ h
   cases b with
   |true=>exact .inr ⟨0,v,by simpa using e,by simp[OH,d]⟩
   |false=>
    simp only[kH,if_false]at e
    rcases sx hX e with⟨h1,f⟩|⟨i,g,h1,f⟩
    ·exact .inl ⟨h1,by simp[OH,d,f]⟩
    ·exact .inr ⟨i+1,g,h1,by simp[OH,d,f]⟩
  ·exact zR
theorem q8{d k ρ e}(c:VR ρ k e):∀{b ms r},OH (my d) k b=M r->
  aU ρ (b.map (·.1)) (ms.map (·.key))->aU ρ (b.map (·.2)) (ms.map (·.val))->∀j,
  match r with
  |none=>Instr.findNow d e ms j=M b_
  |some (i,v)=> ∃m,ms[i]? =M m/\Instr.findNow d e ms j=M (M (j+i,m.val))/\VR ρ v m.val
 |[],ms,r,h,h1,a,j=>by
  have:ms=[]:=by simp only[A_,aU]at h1;simpa using h1
  subst this
  simp only[OH,fE]at h
  subst h
  rfl
 |(l,v)::b,[],r,h,h1,a,j=>by simp[aU]at h1
 |(l,v)::b,m::ms,r,h,h1,a,j=>by
  simp only[i_,aU.aL]at h1 a
  simp only[OH]at h
  split at h
  ·rename_i f
   cases h
   exact⟨m,rfl,by simp[Instr.findNow,vn f c h1.1],a.1⟩
  ·rename_i f
   have g:=vn f c h1.1
   split at h
   ·rename_i i u hi
    cases h
    obtain⟨n,o,q,s⟩:=q8 c hi h1.2 a.2 (j+1)
    exact⟨n,by simpa using o,by simp[Instr.findNow,g,q];omega,s⟩
   ·have t:=q8 c h h1.2 a.2 (j+1)
    cases r with
    |none=>simpa [Instr.findNow,g]using t
    |some p=>
     grind
  ·cases h
include hI in
theorem vp{kt:TypeId}{k:AV}{ρ:Env}{b:Value}(d:VR ρ k b)(w:World):∀{c:List (AV×AV)}{ms:List MapEntry}{r:Option (Nat×AV)},OH (xH I 10000 kt) k c=M r->
  aU ρ (c.map (·.1)) (ms.map (·.key))->aU ρ (c.map (·.2)) (ms.map (·.val))->∀j,
  match r with
  |none=>(Instr.findAsking kt b ms j).run P w= .ok b_ w
  |some (i,v)=> ∃m,ms[i]? =M m/\(Instr.findAsking kt b ms j).run P w= .ok (M (j+i,m.val)) w/\VR ρ v m.val
 |[],ms,r,h,h1,a,j=>by
  have:ms=[]:=by simp only[A_,aU]at h1;simpa using h1
  subst this
  simp only[OH,fE]at h
  subst h
  simp[Instr.findAsking]
 |(l,v)::c,[],r,h,h1,a,j=>by simp[aU]at h1
 |(l,v)::c,m::ms,r,h,h1,a,j=>by
  simp only[i_,aU.aL]at h1 a
  simp only[OH]at h
  split at h
  ·rename_i f
   cases h
   have e:=vh hI 10000 kt _ _ _ f ρ b m.key w d h1.1
   exact⟨m,rfl,by simp[Instr.findAsking,Op.equal,Op.maxDepth,e],a.1⟩
  ·rename_i f
   have e:=vh hI 10000 kt _ _ _ f ρ b m.key w d h1.1
   split at h
   ·rename_i i u hi
    cases h
    obtain⟨n,o,q,s⟩:=vp d w hi h1.2 a.2 (j+1)
    exact⟨n,by simpa using o,by simp[Instr.findAsking,Op.equal,Op.maxDepth,e,q];omega,s⟩
   ·have t:=vp d w h h1.2 a.2 (j+1)
    cases r with
    |none=>simpa [Instr.findAsking,Op.equal,Op.maxDepth,e]using t
    |some p=>
     rename_i g
     exact absurd h (g p.1 p.2)
  ·cases h
include hI in
theorem gM{kt:TypeId}{g:TypeDesc}(b:I.dI kt=M g){k:AV}{ρ:Env}{d:Value}(o:VR ρ k d)(w:World){f:List (AV×AV)}{ms:List MapEntry}{r:Option (Nat×AV)}(h:OH (DR I kt g) k f=M r)
  (j:aU ρ (f.map (·.1)) (ms.map (·.key))) (q:aU ρ (f.map (·.2)) (ms.map (·.val))):
  match r with
  |none=>(Instr.findKey kt d ms).run P w= .ok b_ w
  |some (i,v)=> ∃m,ms[i]? =M m/\(Instr.findKey kt d ms).run P w= .ok (M (i,m.val)) w/\VR ρ v m.val:=by
 cases g with
 |array n e=>
  have c:=vp (P:=P) hI o w h j q 0
  have a:Instr.findNow (.array n e) d ms 0=b_∨ms=[]:=by
   cases ms with
   |nil=>exact .inr A
   |cons m ms=>exact .inl (by simp[Instr.findNow,Instr.sameNow])
  rcases a with a|rfl
  ·cases r with
   |none=>simpa [Instr.findKey,hI.aW w b,a]using c
   |some p=>simpa [Instr.findKey,hI.aW w b,a]using c
  ·have l:f=[]:=by simpa [aU]using j.length_eq
   subst l
   simp only[OH,fE]at h
   subst h
   simp[Instr.findKey,hI.aW w b,Instr.findNow]
 |_=>
  rw[sw I kt _ (by intro _ _ e;cases e)]at h
  have c:=q8 o h j q 0
  cases r with
  |none=>simp[Instr.findKey,hI.aW w b,c]
  |some p=>
   obtain⟨m,s,t,u⟩:=c
   exact⟨m,s,by simp[Instr.findKey,hI.aW w b,t],u⟩
theorem aah{a k r}(h:my a k k=M r):(∃q,a= .int q)∨a= .string∨a= .bool:=by
 unfold my at h
 grind
theorem vq{P}(f:Nat->Sem Unit)(w):∀(is:List Nat),(∀i∈is,(f i).run P w= .ok () w)->
  (forIn (m:=Sem) is PUnit.unit (λi _=>do f i;pure (ForInStep.yield PUnit.unit))).run P w= .ok PUnit.unit w
 |[],_=>zA
 |i::is,h=>by
  simp only[List.forIn_cons,Sem.run_bind,h i H_,Result.andThen_ok,Sem.run_pure]
  exact vq f w is Y
include hI in
theorem run_checkKey{kt:TypeId}{h:TypeDesc}(j:I.dI kt=M h){k:AV}(b:pX I h k=true)(c:Bool)(n:Nat){ρ:Env}{v:Value}(l:VR ρ k v)(w:World):(Instr.checkKey c (n+2) kt v).run P w= .ok () w:=by
 unfold pX at b
 split at b
 ·rename_i len e cs
  split at b
  ·rename_i q m o p
   simp only[VR]at l
   obtain⟨vs,rfl,f⟩:=l
   unfold Instr.checkKey
   simp only[Sem.run_bind,hI.aW w j,Result.andThen_ok]
   simp only[Std.Legacy.Range.forIn_eq_forIn_range',Std.Legacy.Range.size,Nat.sub_zero,Nat.add_one_sub_one,Nat.div_one]
   have key:∀i∈Y_ 0 len,((do Instr.checkKey c (n+1) e (<-part e vs.toArray (i*(<-sizeOf e))):Sem Unit)).run P w= .ok () w:=by
    intro i hi
    have g:i∈d_ len:=by simpa [List.range_eq_range']using hi
    have:=List.all_eq_true.1 b i g
    obtain⟨a,ha⟩:=Option.isSome_iff_exists.1 this
    obtain⟨u,s,_⟩:=QI hI ha f w
    simp only[Sem.run_bind,hI.ca w p,Result.andThen_ok,s]
    unfold Instr.checkKey
    simp only[Sem.run_bind,hI.aW w o,Result.andThen_ok]
    rfl
   have:=vq (P:=P) (λi=>(do Instr.checkKey c (n+1) e (<-part e vs.toArray (i*(<-sizeOf e))):Sem Unit)) w (Y_ 0 len) key
   simp at this⊢
   rw[this]
   rfl
  ·cases b
 ·cases b
 ·rename_i x y
  obtain⟨r,t⟩:=Option.isSome_iff_exists.1 b
  have d:=aah t
  unfold Instr.checkKey
  simp only[Sem.run_bind,hI.aW w j,Result.andThen_ok]
  rcases d with⟨q,rfl⟩|rfl|rfl<;>cases v<;>rfl
include hX hI in
theorem vu{t:TypeId}{m k:AV}{ok:Bool}{H:AH}{K:AV->R}(h:sem (uH X I t m k ok H K)):
  ∃a,sem (K a)/\q7 P H (λj f=>Instr.lookup t j f ok) m k a:=by
 unfold uH at h
 split at h
 ·rename_i kt e hd
  split at h
  ·rename_i U d r hz
   split at h
   ·rename_i W g
    split at h
    ·rename_i q
     have C:∀c ρ w j,VR ρ m j->Rel c ρ H w->∃ms:List MapEntry,r9 ρ W ms/\
       ∀f,(Instr.lookup t j f ok).run P w=((do
        Instr.checkKey ms.toArray.isEmpty 10000 kt f
        let(v,found)<-match <-Instr.findKey kt f ms with
         |some (_,v)=>pure (v,true)
         |none=>pure (<-zeroValue e,false)
        pure (if ok then .tuple #[v,.bool found]else v)):Sem Value).run P w:=by
      intro c ρ w j o s
      cases m with
      |map l=>
       cases l with
       |none=>
        simp only[fE]at g
        subst g
        simp only[VR]at o
        subst o
        exact⟨[],r9.mk A zH zH,λf=>by simp only[Instr.lookup,Sem.run_bind,hI.aW w hd,Result.andThen_ok,Sem.run_pure];rfl⟩
       |some l=>
        simp only at g
        cases Y:H.get l with
        |map ai=>
         rw[Y]at g
         cases g
         simp only[VR]at o
         obtain⟨b,N,Z,rfl⟩:=o
         have D:=s.dF l
         rw[Y,Z]at D
         obtain⟨b',N',ms,G,e1,e2,Kf,_⟩:=D
         cases e1
         have hg:(getObj b).run P w= .ok (.map ms.toArray G) w:=by simp[getObj,Sem.run,e2]
         exact⟨ms,Kf,λf=>by simp only[Instr.lookup,Sem.run_bind,hI.aW w hd,Result.andThen_ok,Sem.run_pure,hg];rfl⟩
        |_=>rw[Y]at g;simp at g
      |_=>simp at g
     split at h
     rotate_left
     ·rename_i O
      have Q:∀n e,U≠ .array n e:=λn e hh=>by subst hh;exact hX.fail h
      have h:sem (yl X (my U) k X.fail (λv=>K (bif ok then .qP [v,.bool true]else v)) (gK W)):=by
       cases U<;>first|exact h|exact absurd A (Q _ _)
      rcases sx hX h with⟨x,_⟩|⟨i,v,x,J⟩
      ·exact absurd x hX.fail
      ·refine⟨_,x,λc ρ w j f o y s=>?_⟩
       obtain⟨ms,⟨ak,g1,g2,_,g4⟩,h3⟩:=C c ρ w j o s
       obtain⟨E,_,g5,g6⟩:=q8 y J g1 g2 0
       obtain⟨i',g7⟩:=g4 _ _ _ _ g5
       have B:=run_checkKey (P:=P) hI r q ms.toArray.isEmpty 9998 y w
       have L:(Instr.findKey kt f ms).run P w= .ok (M (i',E.val)) w:=by simp[Instr.findKey,hI.aW w r,g7]
       rw[h3 f]
       refine⟨if ok then .tuple #[E.val,.bool true]else E.val,?_,?_⟩
       ·simp only[Sem.run_bind,B,Result.andThen_ok,L,Sem.run_pure]
       ·cases ok
        ·simpa using g6
        ·simp only[cond_true,if_true,VR];exact⟨[E.val,.bool true],rfl,aU.aL.2 ⟨g6,aU.aL.2 ⟨zB,zH⟩⟩⟩
     rename_i O
     have fin:∀c ρ w j f,VR ρ m j->VR ρ k f->Rel c ρ H w->∀V,OH (DR I kt U) k W=M V->∃u,(Instr.lookup t j f ok).run P w= .ok u w/\
       VR ρ (match V with|none=>(bif ok then .qP [d,.bool false]else d)|some p=>(bif ok then .qP [p.2,.bool true]else p.2)) u:=by
      intro c ρ w j f o y s V S
      obtain⟨ms,ad,h3⟩:=C c ρ w j o s
      obtain⟨x,J⟩:=ad.plain O
      have F:=gM (P:=P) hI r y w S x J
      have B:=run_checkKey (P:=P) hI r q ms.toArray.isEmpty 9998 y w
      rw[h3 f]
      cases V with
      |none=>
       obtain⟨zv,ag,T⟩:=hI.mq w hz
       refine⟨if ok then .tuple #[zv,.bool false]else zv,?_,?_⟩
       ·simp only[Sem.run_bind,B,Result.andThen_ok,F,Sem.run_pure,ag]
       ·cases ok
        ·simpa using T ρ
        ·simp only[cond_true,if_true,VR];exact⟨[zv,.bool false],rfl,aU.aL.2 ⟨T ρ,aU.aL.2 ⟨zB,zH⟩⟩⟩
      |some p=>
       obtain⟨E,_,h4,h5⟩:=F
       refine⟨if ok then .tuple #[E.val,.bool true]else E.val,?_,?_⟩
       ·simp only[Sem.run_bind,B,Result.andThen_ok,h4,Sem.run_pure]
       ·cases ok
        ·simpa using h5
        ·simp only[cond_true,if_true,VR];exact⟨[E.val,.bool true],rfl,aU.aL.2 ⟨h5,aU.aL.2 ⟨zB,zH⟩⟩⟩
     rcases sx hX h with⟨x,J⟩|⟨i,v,x,J⟩
     ·exact⟨_,x,λc ρ w j f o y s=>fin c ρ w j f o y s b_ J⟩
     ·exact⟨_,x,λc ρ w j f o y s=>fin c ρ w j f o y s (M (i,v)) J⟩
    ·exact zR
   ·exact zR
  ·exact zR
 ·exact zR
def kK:List AV->Option (List Int)
 |[]=>M []
 | .int o_ x::cs=>(kK cs).map λl=>x::l
 |_=>b_
def dx(ks:List Int):List AV:=ks.map λx=> .int o_ x
theorem jG:∀{cs ks},kK cs = M ks -> cs = dx ks
  |[],ks,h => by simp only[kK,fE]at h; subst h; rfl
  |c ::cs,ks,h => by
    cases c with
    |int k x =>
      cases k <;> first
        | (simp only [kK, c_] at h
           obtain⟨l,a,rfl⟩ := h
           rw[jG a]; rfl)
        |(simp[kK]at h; done)
    |_ => simp[kK]at h
def jD(n:Nat)(f:Nat->List Int)(ks:List Int):Option Nat:=(d_ n).find? λi=>f i==ks
def uI(n:Nat)(f:Nat->List Int)(ks:List Int)(j:Nat):Bool:=match jD n f ks with|some i=>t_ i j|none=>false
def Kv(n:Nat)(f:Nat->List Int)(ks:List Int):Bool:=match jD n f ks with|some _=>false|none=>true
def ln(n:Nat)(f:Nat->List Int)(m:Nat):Bool:=(d_ n).all λi=>t_ (f i).length m
theorem ym{eq:AV->AV->Option Bool}(d:∀x y,eq (.int o_ x) (.int o_ y)=M (x==y)){I:ba}{e:TypeId}{kk:IntKind}(k:I.dI e=M (.int kk)){a b:List Int}:∀is:List Nat,(∀i∈is,i<a.length/\i<b.length)->
  DK eq I e 1 (dx a) (dx b) is=M (is.all λi=>a[i]? ==b[i]?)
 |[],_=>rfl
 |i::is,h=>by
  obtain⟨f,g⟩:=h i H_
  have l:∀c:List Int,i<c.length->apart I e (dx c) (i*1)=(c[i]?).map λx=> .int o_ x:=by
   intro c n
   simp[apart,k,TypeDesc.agg,dx]
  rw[DK,l a f,l b g,mo f,mo g]
  simp only[l_,Option.bind_some,d,ym d k is (λj m=>h j (D_ _ m)),List.all_cons,mo f,mo g]
  rfl
theorem Ph{a b:List Int}{n}(ha:a.length=n)(c:b.length=n):((d_ n).all λi=>a[i]? ==b[i]?)=(a==b):=by
 rw[Bool.eq_iff_iff]
 simp only[n_,R_,beq_iff_eq]
 constructor
 ·intro h
  apply List.ext_getElem?
  grind
 grind
theorem Kw{I kt c len kk}(f:I.dI kt=M (.array len c))(e:I.dI c=M (.int kk))(g:I.size c=M 1){a b}(ha:a.length=len)(h:b.length=len)(d):
  xH I (d+2) kt (.agg (dx a)) (.agg (dx b))=M (a==b):=by
 unfold xH
 simp only[f,g]
 rw[ym (kk:=kk) (λx y=>by unfold xH;simp[e]) e _ ZD,Ph ha h]
theorem mz{I kt a len kk}(b:I.dI kt=M (.array len a))(c:I.dI a=M (.int kk))(d:I.size a=M 1){ks}(g:ks.length=len){f:Nat->List Int}{Q:Nat->AV}:∀L:List Nat,(∀i∈L,(f i).length=len)->
  (∀i,L.find? (λi=>f i==ks)=M i->∃p,L[p]? =M i/\OH (DR I kt (.array len a)) (.agg (dx ks)) (L.map λi=>(E_ (dx (f i)),Q i))=M (M (p,Q i)))/\
  (L.find? (λi=>f i==ks)=b_->OH (DR I kt (.array len a)) (.agg (dx ks)) (L.map λi=>(E_ (dx (f i)),Q i))=M b_)
 |[],_=>⟨zA,λ_=>rfl⟩
 |i::L,h=>by
  obtain⟨k,l⟩:=mz b c d g (f:=f) (Q:=Q) L ZD
  have e:DR I kt (.array len a) (.agg (dx ks)) (.agg (dx (f i)))=M (ks==f i):=Kw (kk:=kk) b c d g Y 9998
  have j:(ks==f i)=(f i==ks):=by rw[Bool.eq_iff_iff];simp only[beq_iff_eq];exact eq_comm
  simp only[i_,OH,e,List.find?_cons,j]
  grind
def q9(X:RI R)(I:ba)(t:TypeId)(m k:AV)(ok:Bool)(H:AH)(K:AV->R):R :=
 match m,k with
 | .map (M l),.agg cs=>match H.get l with
  | .cT n f _ foc=>match I.dI t,kK cs with
   |some (.map kt e),M ks=>match I.dI kt,I.zero e with
    |some (.array len c),M b=>match I.dI c,I.size c with
     |some (.int _),M 1=>match foc with
      |none=>X.bq (t_ ks.length len&&ln n f len&&Kv n f ks) (K (bif ok then .qP [b,.bool false]else b))
      |some (j,a)=>X.bq (t_ ks.length len&&ln n f len&&uI n f ks j) (K (bif ok then .qP [a,.bool true]else a))
     |_,_=>X.fail
    |_,_=>X.fail
   |_,_=>X.fail
  |_=>uH X I t m k ok H K
 |_,_=>uH X I t m k ok H K
theorem rc{n f m}(h:ln n f m=true):∀i∈d_ n,(f i).length=m:=λi hi=>dE (List.all_eq_true.1 h i hi)
theorem PK{ρ}(ks):VR ρ (.agg (dx ks)) (iL ks):=by
 simp only[VR,iL]
 refine⟨_,rfl,?_⟩
 induction ks with
 |nil=>simp[dx,aU]
 |cons x ks a=>
  simp only[dx,i_]at a⊢
  exact aU.aL.2 ⟨zB,a⟩
theorem Bu{ρ:Env}{n:Nat}{f:Nat->List Int}{Q:Nat->AV}{u:Nat->Value}(h:∀i,i<n->VR ρ (Q i) (u i)):
  aU ρ (((d_ n).map λi=>(E_ (dx (f i)),Q i)).map (·.1)) ((bT n f u).map (·.key))/\aU ρ (((d_ n).map λi=>(E_ (dx (f i)),Q i)).map (·.2)) ((bT n f u).map (·.val)):=by
 have:∀L:List Nat,(∀i∈L,i<n)->aU ρ ((L.map λi=>(E_ (dx (f i)),Q i)).map (·.1)) ((L.map λi=>({key:=iL (f i),val:=u i,born:=i}:MapEntry)).map (·.key))/\aU ρ ((L.map λi=>(E_ (dx (f i)),Q i)).map (·.2)) ((L.map λi=>({key:=iL (f i),val:=u i,born:=i}:MapEntry)).map (·.val)):=by
  intro L
  induction L with
  |nil=>intro _;simp[aU]
  |cons i L a=>
   intro hL
   obtain⟨b,d⟩:=a λj c=>hL j (D_ _ c)
   simp only[i_]
   exact⟨aU.aL.2 ⟨PK _,b⟩,aU.aL.2 Y⟩
 exact this _ λi hi=>List.mem_range.1 hi
include hX hI in
theorem tH{t:TypeId}{m k:AV}{ok:Bool}{H:AH}{K:AV->R}(h:sem (q9 X I t m k ok H K)):
  ∃a,sem (K a)/\q7 P H (λo q=>Instr.lookup t o q ok) m k a:=by
 unfold q9 at h
 split at h
 ·rename_i l cs
  split at h
  ·rename_i n f Q foc hb
   split at h
   ·rename_i kt e ks hd T
    split at h
    ·rename_i len et d r hz
     split at h
     ·rename_i kk v G
      have U:=jG T
      subst U
      have key:∀c ρ w o q,VR ρ (.map (M l)) o->VR ρ (.agg (dx ks)) q->Rel c ρ H w->ks.length=len->ln n f len=true->∃(u:Nat->Value),(∀i,i<n->VR ρ (Q i) (u i))/\(∀j a,foc=M (j,a)->j<n/\VR ρ a (u j))/\
        (∀j,jD n f ks=M j->(Instr.lookup t o q ok).run P w= .ok (if ok then .tuple #[u j,.bool true]else u j) w)/\
        (jD n f ks=b_->∃x,(∀ρ,VR ρ d x)/\(Instr.lookup t o q ok).run P w= .ok (if ok then .tuple #[x,.bool false]else x) w):=by
       intro c ρ w o q F y J hl hg
       simp only[VR]at F
       obtain⟨b,N,V,rfl⟩:=F
       have s:=J.dF l
       rw[hb,V]at s
       obtain⟨b',N',u,e1,e2,e3,e4⟩:=s
       cases e1
       have L:(getObj b).run P w= .ok (.map (bT n f u).toArray n) w:=by simp[getObj,Sem.run,e2]
       have B:pX I (.array len et) (.agg (dx ks))=true:=by
        simp only[pX,v,G,n_,R_]
        intro i hi
        simp[apart,v,TypeDesc.agg,dx,mo (O:i<ks.length)]
       have S:=run_checkKey (P:=P) hI r B (bT n f u).toArray.isEmpty 9998 y w
       obtain⟨v1,v2⟩:=Bu (f:=f) e3
       obtain⟨a1,a2⟩:=mz (kk:=kk) r v G hl (f:=f) (Q:=λi=>Q i) (d_ n) (rc hg)
       refine⟨u,e3,e4,λj hj=>?_,λC=>?_⟩
       ·obtain⟨p,W,Y⟩:=a1 j hj
        have D:=gM (P:=P) hI r y w Y v1 v2
        obtain⟨me,f1,f2,f3⟩:=D
        have:me.val=u j:=by
         simp only[bT,e_,W,l_,fE]at f1
         subst f1;rfl
        simp only[Instr.lookup,Sem.run_bind,hI.aW w hd,Result.andThen_ok,Sem.run_pure,L,S,f2,this]
       ·have D:=gM (P:=P) hI r y w (a2 C) v1 v2
        obtain⟨x,Z,ad⟩:=hI.mq w hz
        exact⟨x,ad,by simp only[Instr.lookup,Sem.run_bind,hI.aW w hd,Result.andThen_ok,Sem.run_pure,L,S,D,Z]⟩
      split at h
      ·have hc:=hX.bq _ _ h
       obtain⟨g,E⟩:=hc
       simp only[bf]at g
       refine⟨_,E,λc ρ w o q F y J=>?_⟩
       obtain⟨u,_,_,_,k4⟩:=key c ρ w o q F y J (dE g.1.1) g.1.2
       have C:jD n f ks=b_:=by
        have:=g.2
        unfold Kv at this
        split at this
        ·cases this
        ·assumption
       obtain⟨x,z1,z2⟩:=k4 C
       refine⟨_,z2,?_⟩
       cases ok
       ·simpa using z1 ρ
       ·simp only[cond_true,if_true,VR];exact⟨[x,.bool false],rfl,aU.aL.2 ⟨z1 ρ,aU.aL.2 ⟨zB,zH⟩⟩⟩
      ·rename_i j a
       have hc:=hX.bq _ _ h
       obtain⟨g,E⟩:=hc
       simp only[bf]at g
       refine⟨_,E,λc ρ w o q F y J=>?_⟩
       obtain⟨u,_,k2,k3,_⟩:=key c ρ w o q F y J (dE g.1.1) g.1.2
       have ag:jD n f ks=M j:=by
        have:=g.2
        unfold uI at this
        split at this
        ·rename_i i hi;rw[hi,dE this]
        ·cases this
       refine⟨_,k3 j ag,?_⟩
       have:=(k2 j a A).2
       cases ok
       ·simpa using this
       ·simp only[cond_true,if_true,VR];exact⟨[u j,.bool true],rfl,aU.aL.2 ⟨this,aU.aL.2 ⟨zB,zH⟩⟩⟩
     ·exact zR
    ·exact zR
   ·exact zR
  ·exact vu hX hI h
 ·exact vu hX hI h
end
end
section
section
variable {R:Type} {X:RI R} {sem:R->Prop} (hX:X.Ok sem) {I:ba} {P:Program} (hI:I.Ok P)
def Operand.isConst:Operand->Bool
 | .const _=>true
 |_=>false
def DT(X:RI R)(I:ba)(t:TypeId)(c neg:Bool)(a b:AV)(K:AV->R):R :=
 match(match a,b with
  | .nilIface,.nilIface=>c
  | .agg _,.agg _=>I.OI t
  |_,_=>true:Bool),xH I 10000 t a b with
 |true,M r=>K (.bool (bif neg then !r else r))
 |_,_=>X.fail
def DU:AV->Option Nat
 | .own _ n _=>M n
 | .ab n _ _=>M n
 |_=>b_
def Tb(X:RI R)(I:ba)(op:BinOp)(t:TypeId)(c:Bool)(a b:AV)(K:AV->R):R :=
 match a,b with
 | .int k x,.int d y=>
  match op with
  | .shl| .shr=>Lm X I.wr op k x y K
  |_=>if k=d then Ko X I.wr op k x y K else X.fail
 | .str x,.str y=>Kq X op x y K
 |a,b=>
  match DU a,b with
  |some n,.aw=>match I.dI t,op with
   |some (.slice _),.eql=>X.bq (K_ 0 n) (K (.bool false))
   |some (.slice _),.neq=>X.bq (K_ 0 n) (K (.bool true))
   |_,_=>X.fail
  |_,_=>match op with
   | .eql=>DT X I t c false a b K
   | .neq=>DT X I t c true a b K
   |_=>X.fail
theorem HK{a n}(h:DU a=M n)(hn:K_ 0 n=true){ρ u}(b:VR ρ a u):∃x c,u= .slice (M x) n c:=by
 have hn:0<n:=by simpa [Nat.blt_eq]using hn
 cases a<;>simp only[DU,fE,reduceCtorEq]at h
 ·subst h
  simp only[VR]at b
  grind
 ·subst h
  simp only[VR]at b
  grind
theorem AV.Tc{ρ a v}(h:VR ρ a v)(c:∀k n,a≠ .int k n)(d:∀s,a≠ .str s)(b:a≠ .any):(∀k n,v≠ .int k n)/\(∀s,v≠ .string s)/\(∀k n,v≠ .float k n)/\(∀k n m,v≠ .complex k n m):=by
 cases a with
 |int k n=>grind
 |str s=>grind
 |any=>exact absurd A b
 |bool|nilPtr|aw|aB|nilIface|addr=>simp only[VR]at h;subst h;simp
 |ptr=>simp only[VR]at h;grind
 |slice=>simp only[VR]at h;grind
 |own=>simp only[VR]at h;grind
 |map l=>cases l<;>simp only[VR]at h<;>first|(subst h;simp;done)|grind
 |fn=>simp only[VR]at h;grind
 |yield=>simp only[VR]at h;grind
 |iface=>simp only[VR]at h;grind
 |agg=>simp only[VR]at h;grind
 |qP=>simp only[VR]at h;grind
 |fc=>simp only[VR]at h;grind
 |ab=>simp only[VR]at h;grind
theorem vr{P w t u v r}(h:(Op.equalIn 10000 t u v).run P w= .ok r w)(c:∀k n,u≠ .int k n)(_:∀k n,v≠ .int k n)(a:∀s,u≠ .string s)(b:∀k n,u≠ .float k n)(d:∀k n m,u≠ .complex k n m):
  (binOp .eql t u v).run P w= .ok (.bool r) w/\(binOp .neq t u v).run P w= .ok (.bool (!r)) w:=by
 cases u<;>first
  |exact absurd A (c _ _)
  |exact absurd A (a _)
  |exact absurd A (b _ _)
  |exact Y
  |(constructor<;>simp[binOp,Op.equal,Op.maxDepth,h])
theorem Bv{I d t a b r}(h:xH I d t a b=M r):a≠ .any/\b≠ .any:=by
 cases d with
 |zero=>simp[xH]at h
 |succ d=>
  constructor
  ·rintro rfl;unfold xH at h;grind
  ·rintro rfl;unfold xH at h;grind
theorem lM{P}(op)(t)(x y)(u v)(w)(b:u= .nilIface->v= .nilIface->(Operand.isConst x||Operand.isConst y)=true)
  (c:∀d e,u= .agg d->v= .agg e->P.eqGuardType P.depth t=false):(eqGuard op t x y u v).run P w= .ok () w:=by
 have fin:∀(op:BinOp),(op= .eql∨op= .neq)->(eqGuard op t x y u v).run P w= .ok () w:=by
  intro op a
  rcases a with rfl|rfl
  all_goals
   unfold eqGuard
   simp only[Bool.not_true,kH,if_false]
   split
   ·have f:=b A A
    clear b c
    revert f
    cases x<;>cases y<;>simp[Operand.isConst]
   all_goals simp_all
 cases op<;>first|exact fin _ (.inl A)|exact fin _ (.inr A)|rfl
theorem HL{I d t a b r}(h:xH I d t a b=M r):
  (∀k n,a= .int k n->∃c e,b= .int c e)/\(∀k n,b= .int k n->∃c e,a= .int c e)/\(∀s,a= .str s->∃f,b= .str f):=by
 cases d with
 |zero=>simp[xH]at h
 |succ d=>
  refine⟨?_,?_,?_⟩
  ·rintro k n rfl;unfold xH at h;grind
  ·rintro k n rfl;unfold xH at h;grind
  ·rintro s rfl;unfold xH at h;grind
theorem HN{R X}{sem:R->Prop}(hX:X.Ok sem){I t c neg a b K}(h:sem (DT X I t c neg a b K)):∃r,xH I 10000 t a b=M r:=by
 unfold DT at h
 split at h
 grind
 ·exact zR
include hX hI in
theorem Gc{t:TypeId}{d neg:Bool}{a b:AV}{K:AV->R}(h:sem (DT X I t d neg a b K))(D:∀k n,a≠ .int k n)(E:∀s,a≠ .str s)(F:∀k n,b≠ .int k n):
  ∃r:Bool,sem (K (.bool (bif neg then !r else r)))/\∀ρ w u v (x y:Operand) (op:BinOp),(d=true->(Operand.isConst x||Operand.isConst y)=true)->VR ρ a u->VR ρ b v->
   (eqGuard op t x y u v).run P w= .ok () w/\(binOp .eql t u v).run P w= .ok (.bool r) w/\(binOp .neq t u v).run P w= .ok (.bool (!r)) w:=by
 unfold DT at h
 split at h
 ·rename_i r B C
  refine⟨r,h,λρ w u v x y op G f g=>?_⟩
  obtain⟨j,m⟩:=Bv C
  have c:=AV.Tc f D E j
  have H:=vh hI 10000 t a b r C ρ u v w f g
  have o:∀k n,v≠ .int k n:=by
   intro k n e
   subst e
   revert g
   cases b with
   |int J L=>exact absurd A (F _ _)
   |any=>exact absurd A m
   |map l=>cases l<;>simp[VR]
   |_=>simp[VR]
  refine⟨lM op t x y u v w (λe1 p=>?_) (λN O e1 p=>?_),vr H c.1 o c.2.1 c.2.2.1 c.2.2.2⟩
  ·subst e1 p
   have ha:a= .nilIface:=by
    revert f
    cases a with
    |nilIface=>intro _;rfl
    |any=>exact absurd A j
    |map l=>cases l<;>simp[VR]
    |_=>simp[VR]
   have q:b= .nilIface:=by
    revert g
    cases b with
    |nilIface=>intro _;rfl
    |any=>exact absurd A m
    |map l=>cases l<;>simp[VR]
    |_=>simp[VR]
   subst ha q
   exact G B
  ·subst e1 p
   have ha:∃as,a= .agg as:=by
    revert f
    cases a with
    |agg as=>intro _;exact⟨as,rfl⟩
    |any=>exact absurd A j
    |map l=>cases l<;>simp[VR]
    |_=>simp[VR]
   have q:∃i,b= .agg i:=by
    revert g
    cases b with
    |agg i=>intro _;exact⟨i,rfl⟩
    |any=>exact absurd A m
    |map l=>cases l<;>simp[VR]
    |_=>simp[VR]
   obtain⟨as,rfl⟩:=ha
   obtain⟨i,rfl⟩:=q
   exact hI.OI t B
 ·exact zR
include hX hI in
theorem Pj{op:BinOp}{t:TypeId}{B:Bool}{a b:AV}{K:AV->R}(h:sem (Tb X I op t B a b K)):
  ∃f,sem (K f)/\∀ρ w u v (x y:Operand),(B=true->(Operand.isConst x||Operand.isConst y)=true)->VR ρ a u->VR ρ b v->
   ∃r,((do eqGuard op t x y u v;binOp op t u v:Sem Value).run P w= .ok r w)/\VR ρ f r:=by
 unfold Tb at h
 split at h
 ·rename_i k x F y
  have fin:∀{C:Value}{f:AV},(∀ρ,VR ρ f C)->(∀w,(binOp op t (.int k x) (.int F y)).run P w= .ok C w)->∀ρ w u v (p q:Operand),(B=true->(Operand.isConst p||Operand.isConst q)=true)->VR ρ (.int k x) u->VR ρ (.int F y) v->
   ∃r,((do eqGuard op t p q u v;binOp op t u v:Sem Value).run P w= .ok r w)/\VR ρ f r:=by
   intro C f g i ρ w u v p q _ l j
   simp only[VR]at l j
   subst l j
   have H:=lM (P:=P) op t p q (.int k x) (.int F y) w (λe=>zG) (λ_ _ e=>zG)
   exact⟨C,by simp only[Sem.run_bind,H,Result.andThen_ok,i w],g ρ⟩
  split at h
  ·obtain⟨C,f,g,i,m⟩:=vg hX P h t
   exact⟨f,g,fin i (λw=>m w)⟩
  ·obtain⟨C,f,g,i,m⟩:=vg hX P h t
   exact⟨f,g,fin i (λw=>m w)⟩
  ·split at h
   ·rename_i T
    subst T
    obtain⟨C,f,g,i,m⟩:=Kp hX P h t
    exact⟨f,g,fin i (λw=>m w)⟩
   ·exact zR
 ·rename_i x y
  obtain⟨C,f,g,i,m⟩:=Kr hX P h t
  refine⟨f,g,λρ w u v p q _ l j=>?_⟩
  simp only[VR]at l j
  subst l j
  have H:=lM (P:=P) op t p q (.string ⟨x.toArray⟩) (.string ⟨y.toArray⟩) w (λe=>zG) (λ_ _ e=>zG)
  exact⟨C,by simp only[Sem.run_bind,H,Result.andThen_ok,m w],i ρ⟩
 ·rename_i n1 U
  have shape:∀{neg:Bool},sem (DT X I t B neg a b K)->(∀k n,a≠ .int k n)/\(∀s,a≠ .str s)/\(∀k n,b≠ .int k n):=by
   intro neg V
   obtain⟨r,W⟩:=HN hX V
   obtain⟨Y,Z,s3⟩:=HL W
   refine⟨λk n e=>?_,λs e=>?_,λk n e=>?_⟩
   ·obtain⟨F,n',G⟩:=Y k n e;exact n1 _ _ _ _ e G
   ·obtain⟨s',G⟩:=s3 s e;exact U _ _ e G
   ·obtain⟨F,n',G⟩:=Z k n e;exact n1 _ _ _ _ G e
  split at h
  ·rename_i n J
   have key:∀D,I.dI t=M (.slice D)->K_ 0 n=true->∀ρ w u v (p q:Operand) (op:BinOp),VR ρ a u->VR ρ .aw v->
     (eqGuard op t p q u v).run P w= .ok () w/\(binOp .eql t u v).run P w= .ok (.bool false) w/\(binOp .neq t u v).run P w= .ok (.bool true) w:=by
    intro D o hn ρ w u v p q op l j
    obtain⟨x,c,rfl⟩:=HK J hn l
    simp only[VR]at j
    subst j
    refine⟨lM op t p q _ _ w (λe=>zG) (λ_ _ e=>zG),?_⟩
    have L:∀d,(Op.equalIn (d+1) t (.slice (M x) n c) (.slice b_ 0 0)).run P w= .ok false w:=λd=>by simp[Op.equalIn,hI.aW w o]
    have:=vr (P:=P) (w:=w) (t:=t) (u:=.slice (M x) n c) (v:=.slice b_ 0 0) (r:=false) (L 9999) zA zA zA zA zA
    exact this
   split at h
   ·rename_i D o
    obtain⟨g,i⟩:=hX.bq _ _ h
    refine⟨_,i,λρ w u v p q _ l j=>?_⟩
    obtain⟨e1,E,_⟩:=key D o g ρ w u v p q .eql l j
    exact⟨.bool false,by simp only[Sem.run_bind,e1,Result.andThen_ok,E],zB⟩
   ·rename_i D o
    obtain⟨g,i⟩:=hX.bq _ _ h
    refine⟨_,i,λρ w u v p q _ l j=>?_⟩
    obtain⟨e1,_,E⟩:=key D o g ρ w u v p q .neq l j
    exact⟨.bool true,by simp only[Sem.run_bind,e1,Result.andThen_ok,E],zB⟩
   ·exact zR
  split at h
  ·obtain⟨g,i,m⟩:=shape h
   obtain⟨r,N,O⟩:=Gc hX hI h g i m
   refine⟨_,N,λρ w u v p q Q l j=>?_⟩
   obtain⟨e1,E,S⟩:=O ρ w u v p q .eql Q l j
   exact⟨.bool r,by simp only[Sem.run_bind,e1,Result.andThen_ok,E],by simp only[VR,cond_false]⟩
  ·obtain⟨g,i,m⟩:=shape h
   obtain⟨r,N,O⟩:=Gc hX hI h g i m
   refine⟨_,N,λρ w u v p q Q l j=>?_⟩
   obtain⟨e1,E,S⟩:=O ρ w u v p q .neq Q l j
   exact⟨.bool (!r),by simp only[Sem.run_bind,e1,Result.andThen_ok,S],by simp only[VR,cond_true]⟩
  ·exact zR
end
end
section
def iO(P:Program)(s:Sem Next)(c:fw)(ρ:Env)(w:World)(a:AV)(H':AH):Prop :=
 ∃b w' ρ',s.run P w= .ok (.value b) w'/\Ext ρ ρ'/\Rel c ρ' H' w'/\VR ρ' a b/\mu w w'
theorem fx.next{P s c ρ w a H'}(h:fx P s c ρ w a H'):iO P (do pure (.value (<-s))) c ρ w a H':=by
 obtain⟨b,w',ρ',d,f⟩:=h
 exact⟨b,w',ρ',by simp[d],f⟩
theorem aU.of_map{ρ ev e}(h:∀x,VR ρ (ev x) (e x)):∀a:List Operand,aU ρ (a.map ev) (a.map e)
 |[]=>zH
 |x::a=>aU.aL.2 ⟨h x,aU.of_map h a⟩
section
variable {R:Type} (X:RI R) (I:ba)
def uJ(mx:Bool):List AV->Option AV
 | .int k x::rest=>rest.foldlM (λa b=>match a,b with
   | .int k x,.int _ y=>M (.int k (bif mx then(if y>x then y else x)else(if y<x then y else x)))
   |_,_=>b_) (.int k x)
 |_=>b_
def Td:TypeId:=149
def DV(X:RI R)(x:Int)(K:Int->R):Nat->Nat->R
 |0,_=>X.fail
 |n+1,i=>X.cond (z (x=Int.ofNat i)) (λ_=>K (Int.ofNat i)) (λ_=>DV X x K n (i+1))
def oj(X:RI R)(I:ba)(t:TypeId)(x i:AV)(K:AV->R):R :=
 match t_ t Td,x,i with
 |true,.ab len _ _,.int k j=>DV X j (λj=>RC X I t x (.int k j) K) len 0
 |_,_,_=>RC X I t x i K
def DW(o:Oper)(ev:Operand->AV)(H:AH)(K:AV->AH->R):R :=
 match o.op with
 | .move x| .assign x=>K (ev x) H
 | .pick c a b=>match ev c with
  | .bool p=>match ev a,ev b with
   | .bool x,.bool y=>K (.bool (bif p then x else y)) H
   |x,y=>X.cond p (λ_=>K x H) (λ_=>K y H)
  |_=>X.fail
 | .alloc t=>match(I.zero t).bind P_ with
  |some cs=>K (.ptr H.n 0 0 0) (H.new (.cells cs (.ty t)))
  |none=>X.fail
 | .box t x=>match(ev x).cells? with
  |some cs=>K (.ptr H.n 0 0 0) (H.new (.cells cs (.ty t)))
  |none=>X.fail
 | .build t parts=>match DL I t (parts.toList.map λp=>(p.1,ev p.2))with
  |some a=>K a H
  |none=>X.fail
 | .buildSlice t len parts=>oh X I t len (parts.toList.map λp=>(p.1,ev p.2)) H K
 | .load t a=>yf X I t H (ev a) (λv=>K v H)
 | .nilCheck x=>match ev x with
  | .ptr l k e j=>K (.ptr l k e j) H
  | .fc cs j=>K (.fc cs j) H
  | .fn f a b=>K (.fn f a b) H
  | .yield l=>K (.yield l) H
  |_=>X.fail
 | .binOp op t x y _=>Tb X I op t (Operand.isConst x||Operand.isConst y) (ev x) (ev y) (λv=>K v H)
 | .unOp op _ x=>Kt X I.wr op (ev x) (λv=>K v H)
 | .convert s d x=>vm X I s d (ev x) H K
 | .makeInterface t x=>match I.dI t with
  |some (.interface _)=>X.fail
  |some _=>K (.iface t (ev x)) H
  |none=>X.fail
 | .makeFunc (.func f) first cap=>K (.fn f (first.toList.map ev) (cap.toList.map ev)) H
 | .makeMap _ b_=>K (.map (M H.n)) (H.new (.map []))
 | .makeSlice t l c=>qn X I t (ev l) (ev c) H K
 | .slice t x lo hi mx=>PH X I t (ev x) (lo.map ev) (hi.map ev) (mx.map ev) H (λv=>K v H)
 | .fieldAddr t x f=>ql X I t (ev x) f (λv=>K v H)
 | .field t x f=>DM X I t (ev x) f (λv=>K v H)
 | .indexAddr t x i=>oj X I t (ev x) (ev i) (λv=>K v H)
 | .index t x i=>DN X I t (ev x) (ev i) (λv=>K v H)
 | .lookup t x i ok=>q9 X I t (ev x) (ev i) ok H (λv=>K v H)
 | .extract x i=>match ev x with
  | .qP vs=>match vs[i]? with
   |some a=>K a H
   |none=>X.fail
  |_=>X.fail
 | .call {callee:=.builtin .len,args,argTypes}=>match args.toList,argTypes.toList with
  |[x],[t]=>Pg X I t (ev x) H (λv=>K v H)
  |_,_=>X.fail
 | .call {callee:=.builtin .min,args,..}=>match uJ false (args.toList.map ev)with
  |some a=>K a H
  |none=>X.fail
 | .call {callee:=.builtin .max,args,..}=>match uJ true (args.toList.map ev)with
  |some a=>K a H
  |none=>X.fail
 |_=>X.fail
end
section
variable {R:Type} {X:RI R} {sem:R->Prop} (hX:X.Ok sem) {I:ba} {P:Program} (hI:I.Ok P)
theorem lN{P H s x a}(h:Yields P H s x a){c ρ w v}(d:VR ρ x v)(b:Rel c ρ H w):iO P (do pure (.value (<-s v))) c ρ w a H:=by
 obtain⟨u,e,f⟩:=h c ρ w v d b
 exact(fx.same e b f).next
theorem nr{P H s x y a}(h:q7 P H s x y a){c ρ w v u}(e:VR ρ x v)(f:VR ρ y u)(d:Rel c ρ H w):
  iO P (do pure (.value (<-s v u))) c ρ w a H:=by
 obtain⟨b,g,i⟩:=h c ρ w v u e f d
 exact(fx.same g d i).next
theorem kW{ρ ev e}(h:∀x,VR ρ (ev x) (e x))(x:Option Operand):lf (x.map ev) (x.map e):=by
 cases x with
 |none=>trivial
 |some x=>
  intro k n hn
  have:=h x
  rw[hn]at this
  assumption
theorem sy{P mx ρ}(w):∀{as:List AV}{vs k x a},as.foldlM (λa b => match a,b with
      | .int k x, .int _ y => M (.int k (bif mx then(if y > x then y else x)else(if y < x then y else x)))
      |_,_ => b_) (b? k x) = M a -> aU ρ as vs ->∃v,((vs.foldlM (if mx then Builtin.max2 else Builtin.min2) (q_ k x):Sem Value).run P w = .ok v w) /\ VR ρ a v
  |[],vs,k,x,a,h,d => by
    simp only[aU]at d; subst d
    simp only[List.foldlM_nil,Option.pure_def,fE]at h
    subst h
    exact⟨_,by simp; rfl,zB⟩
  |b ::as,vs,k,x,a,h,d => by
    simp only[aU]at d
    obtain⟨u,us,rfl,f,i⟩ := d
    simp only[L_,Option.bind_eq_bind,a_]at h
    obtain⟨c,e,j⟩ := h
    cases b with
    |int m y =>
      simp only[fE]at e
      subst e
      simp only[VR]at f
      subst f
      obtain⟨v,g,l⟩ := sy w j i
      refine⟨v, ?_,l⟩
      cases mx <;> simp only[L_,Sem.run_bind,if_true,kH,if_false,Builtin.min2,Builtin.max2,Sem.run_pure,Result.andThen_ok,cond_true,cond_false]at g ⊢ <;> exact g
    |_ => simp at e
include hX in
theorem yn{x:Int}{K:Int->R}:∀{n i:Nat},sem (DV X x K n i)->sem (K x)
 |0,i,h=>zR
 |n+1,i,h=>by
  have a:=hX.cond _ _ _ h
  by_cases e:x=Int.ofNat i
  ·rw[if_pos (by simpa using e)]at a
   rw[e];exact a
  ·rw[if_neg (by simpa using e)]at a
   exact yn a
include hX in
theorem vw{t:TypeId}{x i:AV}{K:AV->R}(h:sem (oj X I t x i K)):sem (RC X I t x i K):=by
 unfold oj at h
 split at h
 ·exact yn hX h
 ·exact h
include hX hI in
theorem Gd{o:Oper}{ev:Operand->AV}{H:AH}{K:AV->AH->R}(h:sem (DW X I o ev H K)):
  ∃a H',sem (K a H')/\∀c ρ w (e:Operand->Value),(∀x,VR ρ (ev x) (e x))->Rel c ρ H w->iO P (execOp e o) c ρ w a H':=by
 unfold DW at h
 split at h
 case h_1 x C=>exact⟨_,_,h,λc ρ w e m B=>⟨e x,w,ρ,by simp[execOp,C],Ext.refl _,B,m x,mu.refl _⟩⟩
 case h_2 x C=>exact⟨_,_,h,λc ρ w e m B=>⟨e x,w,ρ,by simp[execOp,C],Ext.refl _,B,m x,mu.refl _⟩⟩
 case h_3 cd a b C=>
  split at h
  ·rename_i p hp
   have V:∀c ρ w (e:Operand->Value),(∀x,VR ρ (ev x) (e x))->Rel c ρ H w->(execOp e o).run P w= .ok (.value (if p then e a else e b)) w:=by
    intro c ρ w e m B
    have:=m cd
    rw[hp]at this
    simp only[VR]at this
    simp[execOp,C,this,asBool]
   split at h
   ·rename_i x y hx hy
    refine⟨_,_,h,λc ρ w e m B=>⟨_,w,ρ,V c ρ w e m B,Ext.refl _,B,?_,mu.refl _⟩⟩
    cases p
    ·have:=m b;rw[hy]at this;simpa using this
    ·have:=m a;rw[hx]at this;simpa using this
   ·have S:=hX.cond _ _ _ h
    cases p with
    |true=>exact⟨_,_,by simpa using S,λc ρ w e m B=>⟨_,w,ρ,V c ρ w e m B,Ext.refl _,B,by simpa using m a,mu.refl _⟩⟩
    |false=>exact⟨_,_,by simpa using S,λc ρ w e m B=>⟨_,w,ρ,V c ρ w e m B,Ext.refl _,B,by simpa using m b,mu.refl _⟩⟩
  ·exact zR
 case h_4 t C=>
  split at h
  ·rename_i cs G
   refine⟨_,_,h,λc ρ w e m B=>?_⟩
   simp only[a_]at G
   obtain⟨g,W,T⟩:=G
   obtain⟨zv,D,E⟩:=hI.mq w W
   have J:=VR.cells (E ρ) T
   have:iO P (do pure (.value (<-Instr.alloc t true (.tuple #[])))) c ρ w (.ptr H.n 0 0 0) (H.new (.cells cs (.ty t))):=by
    refine(fx.row (mk:=λa=> .pointer (M a)) (el:=t) B J (T_ T) ?_ λρ' L=>by simp only[VR];exact⟨_,_,L,rfl⟩).next
    simp[Instr.alloc,D,newVar,newRow]
   simpa [execOp,C]using this
  ·exact zR
 case h_5 t x C=>
  split at h
  ·rename_i cs G
   refine⟨_,_,h,λc ρ w e m B=>?_⟩
   have J:=VR.cells (m x) G
   have:iO P (do pure (.value (<-Instr.box t (e x)))) c ρ w (.ptr H.n 0 0 0) (H.new (.cells cs (.ty t))):=by
    refine(fx.row (mk:=λa=> .pointer (M a)) (el:=t) B J (T_ G) ?_ λρ' L=>by simp only[VR];exact⟨_,_,L,rfl⟩).next
    simp[Instr.box,newVar,newRow]
   simpa [execOp,C]using this
  ·exact zR
 case h_6 t parts C=>
  split at h
  ·rename_i a ha
   refine⟨_,_,h,λc ρ w e m B=>?_⟩
   obtain⟨v,D,E⟩:=HH hI ha (PR.of_map m parts.toList) w
   have e1:(parts.map λx=>(x.1,e x.2))=(parts.toList.map λp=>(p.1,e p.2)).toArray:=by apply p_;simp
   have:iO P (do pure (.value (<-Instr.build t (parts.map λx=>(x.1,e x.2))))) c ρ w a H:=by rw[e1];exact(fx.same D B E).next
   simpa [execOp,C]using this
  ·exact zR
 case h_7 t len parts C=>
  obtain⟨a,H',D,E⟩:=vk hX hI h
  refine⟨a,H',D,λc ρ w e m B=>?_⟩
  have e1:(parts.map λx=>(x.1,e x.2))=(parts.toList.map λp=>(p.1,e p.2)).toArray:=by apply p_;simp
  have:iO P (do pure (.value (<-Instr.buildSlice t len (parts.map λx=>(x.1,e x.2))))) c ρ w a H':=by rw[e1];exact(E c ρ w _ (PR.of_map m parts.toList) B).next
  simpa [execOp,C]using this
 case h_8 t a C=>
  obtain⟨g,D,E⟩:=vf hX hI h
  refine⟨g,H,D,λc ρ w e m B=>?_⟩
  obtain⟨v,J,O⟩:=E c ρ w (e a) (m a) B
  simpa [execOp,C]using(fx.same J B O).next
 case h_9 x C=>
  have U:∀c ρ w (e:Operand->Value) a,ev x=a->(∀x,VR ρ (ev x) (e x))->Rel c ρ H w->((∃b,e x= .pointer (M b))∨(∃f us vs,e x= .func (.func f) us vs)∨∃l,e x= .func (.yield l) #[] #[])->iO P (execOp e o) c ρ w a H:=by
   intro c ρ w e a ha m B hv
   refine⟨e x,w,ρ,?_,Ext.refl _,B,ha▸m x,mu.refl _⟩
   rcases hv with⟨b,Y⟩|⟨f,us,vs,Y⟩|⟨l,Y⟩<;>simp[execOp,C,Y]
  split at h
  ·rename_i l k e j hx
   refine⟨_,_,h,λc ρ w e m B=>U c ρ w e _ hx m B (.inl ?_)⟩
   have:=m x;rw[hx]at this;simp only[VR]at this
   obtain⟨b,N,_,D⟩:=this;exact⟨_,D⟩
  ·rename_i cs j hx
   refine⟨_,_,h,λc ρ w e m B=>U c ρ w e _ hx m B (.inl ?_)⟩
   have:=m x;rw[hx]at this;simp only[VR]at this
   obtain⟨b,q,ak,D,_⟩:=this;exact⟨_,D⟩
  ·rename_i f as bs hx
   refine⟨_,_,h,λc ρ w e m B=>U c ρ w e _ hx m B (.inr (.inl ?_))⟩
   have:=m x;rw[hx]at this;simp only[VR]at this
   obtain⟨us,vs,D,_⟩:=this;exact⟨_,_,_,D⟩
  ·rename_i l hx
   refine⟨_,_,h,λc ρ w e m B=>U c ρ w e _ hx m B (.inr (.inr ?_))⟩
   have:=m x;rw[hx]at this;simp only[VR]at this
   obtain⟨b,N,_,D⟩:=this;exact⟨_,D⟩
  ·exact zR
 case h_10 op t x y yt C=>
  obtain⟨g,D,E⟩:=Pj hX hI h
  refine⟨g,H,D,λc ρ w e m B=>?_⟩
  obtain⟨r,J,O⟩:=E ρ w (e x) (e y) x y id (m x) (m y)
  have:=(fx.same J B O).next
  simpa [execOp,C]using this
 case h_11 op t x C=>
  obtain⟨g,D,E⟩:=Ku (P:=P) hX H h
  exact⟨g,H,D,λc ρ w e m B=>by simpa [execOp,C]using lN E (m x) B⟩
 case h_12 s d x C=>
  obtain⟨g,H',D,E⟩:=Bt hX hI h
  exact⟨g,H',D,λc ρ w e m B=>by simpa [execOp,C]using(E c ρ w (e x) (m x) B).next⟩
 case h_13 t x C=>
  split at h
  ·exact zR
  ·rename_i d hd Z
   refine⟨_,_,h,λc ρ w e m B=>?_⟩
   have:iO P (do pure (.value (<-Instr.makeInterface t (e x)))) c ρ w (.iface t (ev x)) H:=by
    refine(fx.same (v:=.iface t (e x)) ?_ B (by simp only[VR];exact⟨_,rfl,m x⟩)).next
    refine run_makeInterface w t (e x) ?_
    have:=hI.dI t d Z
    unfold Program.concrete
    rw[this]
    cases d<;>first|rfl|(exact absurd A (hd _))
   simpa [execOp,C]using this
  ·exact zR
 case h_14 f first cap C=>
  refine⟨_,_,h,λc ρ w e m B=>?_⟩
  have:iO P (do pure (.value (<-Instr.makeFunc (.func f) (first.map e) (cap.map e)))) c ρ w (.fn f (first.toList.map ev) (cap.toList.map ev)) H:=by
   refine(fx.same (v:=.func (.func f) (first.map e) (cap.map e)) (by simp[Instr.makeFunc]) B ?_).next
   simp only[VR]
   exact⟨first.toList.map e,cap.toList.map e,by congr 1<;>(apply p_;simp),aU.of_map m _,aU.of_map m _⟩
  simpa [execOp,C]using this
 case h_15 t C=>
  refine⟨_,_,h,λc ρ w e m B=>?_⟩
  obtain⟨hx,ad⟩:=B.new (.map #[] 0) 0 (.map []) λw' ag=>⟨_,_,[],0,rfl,by simpa using ag,r9.mk rfl zH zH,λ_=>rfl⟩
  refine⟨.map (M w.heap.size),_,_,by simp[execOp,C,Instr.makeMap],hx,ad,by simp only[VR];exact⟨_,_,Env.cP _ _ _,rfl⟩,mu.push _ _⟩
 case h_16 t l cc C=>
  obtain⟨g,H',D,E⟩:=xK hX hI h
  exact⟨g,H',D,λc ρ w e m B=>by simpa [execOp,C]using(E c ρ w (e l) (e cc) (m l) (m cc) B).next⟩
 case h_17 t x lo hi mx C=>
  obtain⟨g,D,E⟩:=yi hX hI H h
  refine⟨g,H,D,λc ρ w e m B=>?_⟩
  obtain⟨u,J,O⟩:=E c ρ w (e x) (lo.map e) (hi.map e) (mx.map e) (m x) (kW m lo) (kW m hi) (kW m mx) B
  simpa [execOp,C]using(fx.same J B O).next
 case h_18 t x f C=>
  obtain⟨g,D,E⟩:=xI hX hI H h
  exact⟨g,H,D,λc ρ w e m B=>by simpa [execOp,C]using lN E (m x) B⟩
 case h_19 t x f C=>
  obtain⟨g,D,E⟩:=HI hX hI H h
  exact⟨g,H,D,λc ρ w e m B=>by simpa [execOp,C]using lN E (m x) B⟩
 case h_20 t x i C=>
  obtain⟨g,D,E⟩:=xJ hX hI H (vw hX h)
  exact⟨g,H,D,λc ρ w e m B=>by simpa [execOp,C]using nr E (m x) (m i) B⟩
 case h_21 t x i C=>
  obtain⟨g,D,E⟩:=HJ hX hI H h
  exact⟨g,H,D,λc ρ w e m B=>by simpa [execOp,C]using nr E (m x) (m i) B⟩
 case h_22 t x i ok C=>
  obtain⟨g,D,E⟩:=tH hX hI h
  exact⟨g,H,D,λc ρ w e m B=>by simpa [execOp,C]using nr E (m x) (m i) B⟩
 case h_23 x i C=>
  split at h
  ·rename_i vs hx
   split at h
   ·rename_i a ha
    refine⟨_,_,h,λc ρ w e m B=>?_⟩
    have D:=m x
    rw[hx]at D
    simp only[VR]at D
    obtain⟨us,E,J⟩:=D
    obtain⟨u,O,h5⟩:=J.get i ha
    have:iO P (do pure (.value (<-Instr.extract (e x) i))) c ρ w a H:=(fx.same (v:=u) (by simp[Instr.extract,E,O]) B h5).next
    simpa [execOp,C]using this
   ·exact zR
  ·exact zR
 case h_24 args Q C=>
  split at h
  ·rename_i x t hx ht
   have ha:args= #[x]:=by apply p_;simpa using hx
   have ai:Q= #[t]:=by apply p_;simpa using ht
   subst ha ai
   obtain⟨g,D,E⟩:=Ga hX hI h #[t] rfl o.type
   refine⟨g,H,D,λc ρ w e m B=>?_⟩
   have:=lN E (m x) B
   simpa [execOp,C,resolve,invoke,builtin]using this
  ·exact zR
 case h_25 args Q C=>
  split at h
  ·rename_i a ha
   refine⟨_,_,h,λc ρ w e m B=>?_⟩
   have hm:∃v,(Builtin.min_ Q o.type (args.map e)).run P w= .ok v w/\VR ρ a v:=by
    have hl:(args.map e).toList=args.toList.map e:=zA
    have F:=aU.of_map m args.toList
    unfold Builtin.min_
    rw[hl]
    generalize args.toList.map ev=as at ha F
    generalize args.toList.map e=vs at F
    unfold uJ at ha
    split at ha
    ·rename_i k x rest
     simp only[aU]at F
     obtain⟨u,us,rfl,D,E⟩:=F
     simp only[VR]at D
     subst D
     simpa using sy (mx:=false) w ha E
    ·cases ha
   obtain⟨v,D,E⟩:=hm
   have:iO P (do pure (.value (<-Builtin.min_ Q o.type (args.map e)))) c ρ w a H:=(fx.same D B E).next
   simpa [execOp,C,resolve,invoke,builtin]using this
  ·exact zR
 case h_26 args Q C=>
  split at h
  ·rename_i a ha
   refine⟨_,_,h,λc ρ w e m B=>?_⟩
   have hm:∃v,(Builtin.max_ Q o.type (args.map e)).run P w= .ok v w/\VR ρ a v:=by
    have hl:(args.map e).toList=args.toList.map e:=zA
    have F:=aU.of_map m args.toList
    unfold Builtin.max_
    rw[hl]
    generalize args.toList.map ev=as at ha F
    generalize args.toList.map e=vs at F
    unfold uJ at ha
    split at ha
    ·rename_i k x rest
     simp only[aU]at F
     obtain⟨u,us,rfl,D,E⟩:=F
     simp only[VR]at D
     subst D
     simpa using sy (mx:=true) w ha E
    ·cases ha
   obtain⟨v,D,E⟩:=hm
   have:iO P (do pure (.value (<-Builtin.max_ Q o.type (args.map e)))) c ρ w a H:=(fx.same D B E).next
   simpa [execOp,C,resolve,invoke,builtin]using this
  ·exact zR
 case h_27=>exact zR
end
end
section
structure fD (r:Nat) (w w':World):Prop where
 other:∀k,k≠r->w'.heap[k]? =w.heap[k]?
 size:w'.heap.size=w.heap.size
 os:w'.os=w.os
 output:w'.output=w.output
 tape:w'.tape=w.tape
theorem fD.refl(r)(w):fD r w w:=⟨λ_ _=>rfl,rfl,rfl,rfl,rfl⟩
theorem fD.trans{r a b c}(h:fD r a b)(k:fD r b c):fD r a c :=
 ⟨λi hi=>(k.other i hi).trans (h.other i hi),k.size.trans h.size,k.os.trans h.os,k.output.trans h.output,k.tape.trans h.tape⟩
theorem PL(w)(r o)(v):fD r w (w.setCell ⟨r,o,b_⟩ v):=
 ⟨λk a=>by simp only[World.setCell,B_];grind,by simp[World.setCell],rfl,rfl,rfl⟩
theorem jf{P r o}:∀(vs)(i)(w)(a:List Value)(el)(fr),w.heap[r]? =M (.cells a.toArray el fr)->o+i+vs.length<=a.length->
  (∀q,q<a.length->¬ (fr.1<=q/\q<fr.2))->(∀v∈vs,v.oneCell'=true)->
  ∃w',(storeCells ⟨r,o,b_⟩ vs i).run P w= .ok () w'/\w'.heap[r]? =M (.cells (a.take (o+i)++vs++a.drop (o+i+vs.length)).toArray el fr)/\fD r w w'
 |[],i,w,a,el,fr,h,_,_,_=>⟨w,by simp[storeCells],by simpa using h,fD.refl r w⟩
 |v::vs,i,w,a,el,fr,h,hl,c,k=>by
  simp only[I_]at hl
  have b:o+i<a.length:=O
  have l:w.cell? ⟨r,o+i,b_⟩=M a[o+i]:=by
   simp only[World.cell?,h,r_,kH,if_false]
   rw[List.getElem?_toArray,mo b]
  have d:w.frozen? ⟨r,o+i,b_⟩=false:=by
   obtain⟨lo,hi⟩:=fr
   have e:=c (o+i) b
   simp only[World.frozen?,h]
   simp only[Bool.and_eq_false_iff,iK]
   simp only at e
   omega
  have f:(w.setCell ⟨r,o+i,b_⟩ v).heap[r]? =M (.cells (a.set (o+i) v).toArray el fr):=by
   simp only[World.setCell,B_,if_true,h,l_,r_,kH,if_false,x_]
  obtain⟨w',e1,g,j⟩:=jf (P:=P) (r:=r) (o:=o) vs (i+1) _ (a.set (o+i) v) el fr f zJ (by simpa using c) ZD
  refine⟨w',?_,?_,(PL w r (o+i) v).trans j⟩
  ·simp only[storeCells,Sem.run_bind,addr_add]
   rw[run_store P w _ v _ Y]
   simp_all
  ·rw[g]
   congr 2
   have a1:o+(i+1)=o+i+1:=O
   rw[a1,S_,F_ O,s_ b,C_ _ _ zJ]
   simp[u_,w_ (X_ b)]
   congr 1
   omega
def Dt(b:Bool):Nat->List AV->List AV->Option (List AV)
 |_,[],cs=>M cs
 |0,.int o_ x::xs,.int o_ y::cs=>match Dt b 0 xs cs with|some l=>M (.int o_ (bif b then x else y)::l)|none=>b_
 |0,.str x::xs,.str y::cs=>match Dt b 0 xs cs with|some l=>M (.str (bif b then x else y)::l)|none=>b_
 |j+1,x::xs,c::cs=>match Dt b j (x::xs) cs with|some l=>M (c::l)|none=>b_
 |_,_,_=>b_
theorem OM(b)(j)(xs cs l):Dt b j xs cs=M l->l=bif b then cs.take j++xs++cs.drop (j+xs.length)else cs:=by
 fun_induction Dt b j xs cs generalizing l<;>intro h<;>first
  |(cases h;done)
  |(cases h;cases b<;>simp;done)
  |grind
  |grind
def DX(i k j:Nat)(a b c:List AV):List AV:=match Dt (i==k) j a c with
 |some l=>l
 |none=>bif i==k then b.take j++a++b.drop (j+a.length)else c
theorem HQ{f:Nat->List AV}(i k j)(xs):DX i k j xs (f k) (f i)=bif i==k then(f k).take j++xs++(f k).drop (j+xs.length)else f i:=by
 unfold DX
 split
 ·rename_i l hl
  rw[OM _ _ _ _ _ hl]
  grind
 ·rfl
def eT.Pk(b:eT)(k e j:Nat)(c:List AV):Option (Bool×eT):=
 match b with
 | .cells cs a=>bif a.w then M (z (k*e+j+c.length<=cs.length),.cells (cs.take (k*e+j)++c++cs.drop (k*e+j+c.length)) a)else b_
 | .rows m d f a=>bif a.w then(if e=d/\j+c.length<=d then M (z (k<m),.rows m d (λi=>DX i k j c (f k) (f i)) a)else b_)else b_
 |_=>b_
def eT.put(b:eT)(k e j:Nat)(a:List AV):Option (Bool×eT):=b.un.Pk k e j a
theorem DY{n e:Nat}{f:Nat->List AV}(h:∀i,i<n->(f i).length=e){k j:Nat}(m:k<n){a:List AV}(o:j+a.length<=e):
  rowsOf n (λi=>bif i==k then(f k).take j++a++(f k).drop (j+a.length)else f i)=(rowsOf n f).take (k*e+j)++a++(rowsOf n f).drop (k*e+j+a.length):=by
 induction n with
 |zero=>omega
 |succ n d=>
  have hl:=nX (n:=n) (e:=e) (f:=f) (λi hi=>h i O)
  rw[dl,dl]
  by_cases b:k<n
  ·have g:k*e+e<=n*e:=by
    have:=h_ e (O:k+1<=n)
    rw[Z_]at this;exact this
   rw[d (λi hi=>h i O) b]
   have:(n==k)=false:=by simp;omega
   rw[this,cond_false,List.take_append_of_le_length O,List.drop_append_of_le_length O]
   simp only[List.append_assoc]
  ·have b:k=n:=by omega
   subst b
   have c:rowsOf k (λi=>bif i==k then(f k).take j++a++(f k).drop (j+a.length)else f i)=rowsOf k f:=by
    unfold rowsOf
    rw[M_,M_]
    congr 1
    apply List.map_congr_left
    intro i hi
    have hi:=List.mem_range.1 hi
    have:(i==k)=false:=by simp;omega
    rw[this,cond_false]
   rw[c]
   simp only[BEq.rfl,cond_true]
   rw[List.take_append,List.drop_append,hl]
   have e1:k*e+j-k*e=j:=O
   have l:k*e+j+a.length-k*e=j+a.length:=O
   rw[e1,l,List.take_of_length_le (O:(rowsOf k f).length<=k*e+j),List.drop_of_length_le (O:(rowsOf k f).length<=k*e+j+a.length)]
   simp
theorem aJ.store{ρ:Env}{P:Program}{w:World}{r N:Nat}{cs:List AV}{rw:Access}(h:aJ ρ w (M (r,N)) cs rw)(a:rw.w=true){o:Nat}{c:List AV}{us:List Value}(hx:aU ρ c us)(l:∀u∈us,u.oneCell'=true)(hl:o+c.length<=cs.length):
  ∃w',(storeCells ⟨r,o,b_⟩ us).run P w= .ok () w'/\fD r w w'/\aJ ρ w' (M (r,N)) (cs.take o++c++cs.drop (o+c.length)) rw:=by
 rcases h with⟨_,m⟩|⟨b,y,vs,rest,el,fr,e1,q,s,d,i,B,C⟩
 ·cases m
 ·cases e1
  have j:=d.length_eq
  have f:=hx.length_eq
  obtain⟨w',f1,D,t⟩:=jf (P:=P) (o:=o) us 0 w (vs++rest) el fr q zJ (by rw[s];exact i.w a) l
  refine⟨w',f1,t,.inr ⟨_,_,vs.take o++us++vs.drop (o+us.length),rest,el,fr,rfl,?_,?_,?_,i,λv E=>?_,λe=>by rw[e]at a;cases a⟩⟩
  grind
  grind
  ·rw[f]
   exact((d.take o).append hx).append (d.drop _)
  grind
section
variable {R:Type} {X:RI R} {sem:R->Prop} (hX:X.Ok sem) {I:ba} {P:Program} (hI:I.Ok P)
def DZ(X:RI R)(I:ba)(t:TypeId)(p v:AV)(H:AH)(K:AH->R):R :=
 match p,v.cells?,I.size t with
 | .ptr l k e j,M xs,M n=>
  if xs.length=n/\xs.all z_=true then
   match(H.get l).put k e j xs with
   |some (ok,b)=>X.bq ok (K (H.set l b))
   |none=>X.fail
  else X.fail
 |_,_,_=>X.fail
theorem eT.Pm{ρ P w r N b q k e j l us}(h:bp ρ w (M (r,N)) b)(c:b.Pk k e j l=M (true,q))(hx:aU ρ l us)(s:l.all z_=true):
  b.rw=true/\∃w',(storeCells ⟨r,k*e+j,b_⟩ us).run P w= .ok () w'/\fD r w w'/\bp ρ w' (M (r,N)) q:=by
 unfold eT.Pk at c
 simp only[HQ]at c
 split at c
 ·rename_i cs a
  cases ha:a.w with
  |false=>grind
  |true=>
  rw[ha]at c
  simp only[cond_true,fE,Prod.mk.injEq,bn]at c
  obtain⟨hl,rfl⟩:=c
  exact⟨ha,aJ.store h ha hx (aU.Kl hx s) hl⟩
 ·rename_i m E f a
  cases ha:a.w with
  |false=>grind
  |true=>
  rw[ha,cond_true]at c
  split at c
  ·rename_i v
   obtain⟨rfl,y⟩:=v
   simp only[fE,Prod.mk.injEq,bn]at c
   obtain⟨t,rfl⟩:=c
   have B:k*e+e<=m*e:=by
    have:=h_ e (O:k+1<=m)
    rw[Z_]at this;exact this
   have u:=nX h.1
   obtain⟨w',f1,C,D⟩:=aJ.store (P:=P) h.2 ha (o:=k*e+j) hx (aU.Kl hx s) O
   refine⟨ha,w',f1,C,λi hi=>?_,?_⟩
   ·by_cases d:i=k
    ·subst d
     simp[h.1 i t];omega
    ·have:(i==k)=false:=by simp[d]
     simp only[this,cond_false]
     exact h.1 i hi
   ·rw[DY h.1 t y]
    exact D
  ·cases c
 ·cases c
theorem eT.Te{ρ P w r N b c k e j a us}(h:bp ρ w (M (r,N)) b)(d:b.put k e j a=M (true,c))(hx:aU ρ a us)(f:a.all z_=true):
  b.rw=true/\∃w',(storeCells ⟨r,k*e+j,b_⟩ us).run P w= .ok () w'/\fD r w w'/\bp ρ w' (M (r,N)) c:=by
 rw[<-eT.Kk]
 exact eT.Pm h.un d hx f
include hX hI in
theorem HT{t:TypeId}{p v:AV}{H:AH}{K:AH->R}(h:sem (DZ X I t p v H K)):
  ∃H',sem (K H')/\∀c ρ w q o,VR ρ p q->VR ρ v o->Rel c ρ H w->∃w',(Instr.storeAt t q o).run P w= .ok () w'/\Rel c ρ H' w':=by
 unfold DZ at h
 split at h
 ·rename_i l k e j G n C hn
  split at h
  ·rename_i d
   obtain⟨f,g⟩:=d
   split at h
   ·rename_i ok b i
    obtain⟨rfl,D⟩:=hX.bq _ _ h
    refine⟨_,D,λc ρ w q o x E y=>?_⟩
    simp only[VR]at x
    obtain⟨r,N,B,rfl⟩:=x
    have hx:=VR.cells E C
    have a:=y.dF l
    rw[B]at a
    obtain⟨s,w',f1,m,F⟩:=eT.Te (P:=P) a i hx g
    have u:o.cells.size=n:=by rw[<-m_,<-hx.length_eq,f]
    refine⟨w',?_,y.fC b s B m.other m.size m.os m.output m.tape F⟩
    simp only[Instr.storeAt,Instr.sureAddr,storeVar,Sem.run_bind,Sem.run_pure,Result.andThen_ok,hI.ca w hn,u,ne_eq,not_true,if_false]
    exact f1
   ·exact zR
  ·exact zR
 ·exact zR
end
end
end
end Go.Sx
