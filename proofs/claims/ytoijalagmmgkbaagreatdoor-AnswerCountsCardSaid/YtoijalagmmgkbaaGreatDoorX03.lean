/- The proof of a statement of the seat, part 3. -/
import Derived.Laws.Build
import Derived.Test.YtoijalagmmgkbaaGreatDoorX02
import Derived.Laws.BytesArg
import Derived.Laws.IdiomStrings
import Derived.Laws.MakeOwn
import Derived.Lib.Builder
set_option linter.all false
set_option linter.defProp false
set_option maxRecDepth 1000000
namespace Go.Sx
open Go
open Option renaming some->M,map_eq_some_iff->a_,bind_eq_some_iff->b_,none->d_,map_some->l_
open Decidable renaming decide->z
open List renaming range->c_,getElem?_map->e_,getD_eq_getElem?_getD->f_,map_cons->h_,all_eq_true->k_,length_map->q_,map_nil->t_,mem_cons_of_mem->u_,getElem?_drop->w_,mem_cons_self->x_,length_take->y_,getElem_mem->z_,replicate->D_,mem_range->E_,mem_map->I_,range'->J_
open _root_.Array renaming getElem?_toList->g_,length_toList->n_,range->H_
open Nat renaming add_mul->i_,add_assoc->j_,mul_le_mul_right->o_,beq->r_,mod_lt->s_,blt->A_,min_eq_left->C_
open Go.IntKind renaming i64->m_
open Go.Value renaming int->p_,cells->G_
open AV renaming agg->v_,one->F_,cells?->L_,k9->M_
noncomputable section
def mw(b:Nat->Option (Nat×Nat))(cs:List AV):List (Nat×AV)->Option (List AV)
 |[]=>M cs
 |(i,a)::rest=>
  match b i,a.cells? with
  |some (off,size),M xs=>if xs.length=size/\off+size<=cs.length then mw b (cs.take off++xs++cs.drop (off+size)) rest else d_
  |_,_=>d_
def vi{b}:∀{e c d},mw b c e=M d->c.all F_=true->d.all F_=true
 |[],c,d,h,h1=>by simp only[mw,fE]at h;rw[<-h];exact h1
 |(i,a)::e,c,d,h,h1=>by
  simp only[mw]at h
  split at h
  ·rename_i off size zs g f
   split at h
   ·refine vi h ?_
    have j:=M_ f
    grind
   ·cases h
  ·cases h
def HG{us:List Value}:∀(vs)(off),off+vs.length<=us.length->
  ((vs.toArray.zipIdx.foldl (λcs (x:Value×Nat)=>cs.setIfInBounds (off+x.2) x.1) us.toArray))=(us.take off++vs++us.drop (off+vs.length)).toArray:=by
 intro vs off h
 have key:∀(vs:List Value)(us:List Value)(k:Nat),off+k+vs.length<=us.length->
   ((vs.zipIdx k).foldl (λ(cs:Array Value) (x:Value×Nat)=>cs.setIfInBounds (off+x.2) x.1) us.toArray)=(us.take (off+k)++vs++us.drop (off+k+vs.length)).toArray:=by
  intro vs
  induction vs with
  |nil=>intro us k _;simp
  |cons v vs b=>
   intro us k c
   simp only[List.length_cons]at c
   simp only[List.zipIdx_cons,List.foldl_cons,List.setIfInBounds_toArray]
   rw[b (us.set (off+k) v) (k+1) zJ]
   congr 1
   have a:off+k<us.length:=O
   rw[List.take_set,List.drop_set_of_lt O]
   have:off+(k+1)=off+k+1:=O
   rw[this,List.take_succ_eq_append_getElem a]
   rw[List.set_append_right _ _ zJ]
   simp[y_,C_ (Nat.le_of_lt a)]
   congr 1
   omega
 grind
def PR(ρ:Env):List (Nat×AV)->List (Nat×Value)->Prop
 |[],a=>a=[]
 |p::b,a=> ∃v rest,a=(p.1,v)::rest/\VR ρ p.2 v/\PR ρ b rest
def PR.of_map{ρ}{ev:Operand->AV}{e:Operand->Value}(h:∀x,VR ρ (ev x) (e x)):∀a:List (Nat×Operand),PR ρ (a.map λp=>(p.1,ev p.2)) (a.map λp=>(p.1,e p.2))
 |[]=>by simp[PR]
 |p::a=>⟨_,_,rfl,h _,PR.of_map h a⟩
def q5{ρ b}:∀{m f cs c vs},mw b cs m=M c->
  PR ρ m f->aU ρ cs vs->∃d,Instr.fill b vs.toArray f=M d.toArray/\aU ρ c d
 |[],f,cs,c,vs,h,e,g=>by
  simp only[PR]at e
  subst e
  simp only[mw,fE]at h
  subst h
  exact⟨vs,rfl,g⟩
 |(i,a)::m,f,cs,c,vs,h,e,g=>by
   obtain⟨v,f,rfl,n,e⟩:=e
   simp only[mw]at h
   split at h
   ·rename_i off size t q r
    split at h
    ·rename_i hl
     have j:=VR.cells n r
     have k:=j.length_eq
     have o:=g.length_eq
     have p:v.cells.size=size:=by rw[<-n_,<-k];exact hl.1
     have l:=HG (us:=vs) v.cells.toList off O
     rw[Array.toArray_toList,show off+v.cells.toList.length=off+size by omega]at l
     obtain⟨d,u,s⟩:=q5 (vs:=vs.take off++v.cells.toList++vs.drop (off+size)) h e (((g.take off).append j).append (g.drop _))
     refine⟨d,?_,s⟩
     simp only[Instr.fill,q,p]
     simp_all
    ·cases h
   ·cases h
section
theorem aU.vj{ρ}:∀{as vs},as.length=vs.length->(∀(i:Nat) a v,as[i]? =M a->vs[i]? =M v->VR ρ a v)->aU ρ as vs
 |[],vs,h,_=>by simp at h;simp[aU,List.length_eq_zero_iff.1 h.symm]
 |a::as,[],h,_=>by simp at h
 |a::as,v::vs,h,k=>aU.aL.2 ⟨k 0 a v A A,aU.vj (by simpa using h) λi a' b c d=>k (i+1) a' b (by simpa using c) (by simpa using d)⟩
section
variable {R:Type} {X:RI R} {sem:R->Prop} (hX:X.Ok sem) {I:ba} {P:Program} (hI:I.Ok P) {H:AH}
def placesOf(I:ba):List (TypeId×Nat)->Option (List (Nat×Nat))
 |[]=>M []
 |(t,o)::r=>match I.size t,placesOf I r with
  |some n,M l=>M ((o,n)::l)
  |_,_=>d_
theorem Bs{α a:Type}(P)(w)(f:α->Sem a)(g):∀l:List α,(∀x∈l,(f x).run P w= .ok (g x) w)->(l.mapM f).run P w= .ok (l.map g) w
 |[],_=>zA
 |x::l,h=>by
  have b:=Bs P w f g l ZD
  simp_all
theorem q6{I}:∀{b:List Field}{pl},placesOf I (b.map λf=>(f.type,f.offset))=M pl->∀f∈b,∃n,I.size f.type=M n
 |[],_,_,f,a=>by cases a
 |g::b,pl,h,f,a=>by
  simp only[h_,placesOf]at h
  split at h
  ·rename_i n l hn hl
   rcases List.mem_cons.1 a with rfl|a
   ·exact⟨n,hn⟩
   ·exact q6 hl f a
  ·cases h
theorem tF{I}:∀{a:List Field}{pl},placesOf I (a.map λf=>(f.type,f.offset))=M pl->a.map (λf=>(f.offset,(I.size f.type).getD 0))=pl
 |[],pl,h=>by simp only[t_,placesOf,fE]at h;subst h;rfl
 |g::a,pl,h=>by
  simp only[h_,placesOf]at h
  split at h
  ·rename_i n l hn hl
   cases h
   simp[hn,tF hl]
  ·cases h
def DL(I:ba)(t:TypeId)(a:List (Nat×AV)):Option AV :=
 match I.zero t,I.dI t with
 |some (.agg zs),M (.struct _)=>(I.fields t).bind λl=>(placesOf I l).bind λpl=>(mw (pl[·]?) zs a).map .agg
 |some (.agg zs),M (.array _ e)=>(I.size e).bind λm=>(mw (λi=>M (i*m,m)) zs a).map .agg
 |_,_=>d_
include hI in
theorem HH{t:TypeId}{c:List (Nat×AV)}{a:AV}(h:DL I t c=M a){ρ:Env}{x:List (Nat×Value)}(y:PR ρ c x)(w:World):
  ∃v,(Instr.build t x.toArray).run P w= .ok v w/\VR ρ a v:=by
 unfold DL at h
 split at h
 ·rename_i zs i j g
  simp only[b_,a_]at h
  obtain⟨l,k,pl,C,cs,o,rfl⟩:=h
  obtain⟨b,p,q⟩:=hI.mq w j
  have d:=q ρ
  simp only[VR]at d
  obtain⟨us,rfl,r⟩:=d
  obtain⟨D,E,rfl,_⟩:=hI.fields t l k
  have F:i=D:=by have:=hI.dI t _ g;rw[E]at this;cases this;rfl
  subst F
  obtain⟨vs,s,u⟩:=q5 o y r
  refine⟨.agg vs.toArray,?_,by simp only[VR];exact⟨vs,rfl,u⟩⟩
  have G:(i.mapM (λf=>do pure (f.offset,<-sizeOf f.type):Field->Sem (Nat×Nat))).run P w= .ok pl.toArray w:=by
   rw[Array.mapM_eq_mapM_toList]
   have:=Bs P w (λf=>do pure (f.offset,<-sizeOf f.type):Field->Sem (Nat×Nat)) (λf=>(f.offset,(I.size f.type).getD 0)) i.toList (λf H=>by
    obtain⟨n,hn⟩:=q6 C f H
    simp[hI.ca w hn,hn])
   rw[Sem.run_map,this,tF C]
   rfl
  simp only[Instr.build,Sem.run_bind,p,Result.andThen_ok,hI.aW w g,G,G_]
  simp[s]
 ·rename_i zs n e j g
  simp only[b_,a_]at h
  obtain⟨m,k,cs,o,rfl⟩:=h
  obtain⟨b,p,q⟩:=hI.mq w j
  have d:=q ρ
  simp only[VR]at d
  obtain⟨us,rfl,r⟩:=d
  obtain⟨vs,s,u⟩:=q5 o y r
  refine⟨.agg vs.toArray,?_,by simp only[VR];exact⟨vs,rfl,u⟩⟩
  simp[Instr.build,p,hI.aW w g,hI.ca w k,G_,s]
 ·cases h
def oh(X:RI R)(I:ba)(t:TypeId)(len:Nat)(a:List (Nat×AV))(H:AH)(K:AV->AH->R):R :=
 match I.dI t with
 |some (.slice e)=>
  match I.size e,(I.zero e).bind L_ with
  |some m,M zs=>
   if len*m<=2^24/\0<m/\zs.length=m then
    match mw (λi=>M (i*m,m)) ((c_ (len*m)).map λi=>zs.getD (i%m) .any) a with
    |some cs=>K (.slice H.n 0 0 len (M len) m) (H.new (.cells cs (.ty e)))
    |none=>X.fail
   else X.fail
  |_,_=>X.fail
 |_=>X.fail
include hX hI in
theorem vk{t:TypeId}{len:Nat}{d:List (Nat×AV)}{K:AV->AH->R}(h:sem (oh X I t len d H K)):
  ∃a H',sem (K a H')/\∀c ρ w E,PR ρ d E->Rel c ρ H w->fx P (Instr.buildSlice t len E.toArray) c ρ w a H':=by
 unfold oh at h
 split at h
 ·rename_i e hd
  split at h
  ·rename_i m zs hm W
   split at h
   ·rename_i hc
    obtain⟨ag,l,g⟩:=hc
    split at h
    ·rename_i cs F
     refine⟨_,_,h,λc ρ w E hq hr=>?_⟩
     simp only[b_]at W
     obtain⟨za,G,n⟩:=W
     obtain⟨b,e1,e2⟩:=hI.mq w G
     have Y:=VR.cells (e2 ρ) n
     have e4:=Y.length_eq
     have J:b.cells.size=m:=by rw[<-n_,<-e4,g]
     have o:aU ρ ((c_ (len*m)).map λi=>zs.getD (i%m) .any) ((c_ (len*m)).map λi=>b.cells[i%b.cells.size]!):=by
      refine aU.vj zA λi a v q r=>?_
      simp only[e_,a_]at q r
      obtain⟨x,hx,rfl⟩:=q
      obtain⟨y,Z,rfl⟩:=r
      have L:x=y:=by rw[hx]at Z;cases Z;rfl
      subst L
      have f:x%m<zs.length:=by rw[g];exact s_ _ l
      have hg:zs[x%m]? =M (zs.getD (x%m) .any):=by rw[f_,mo f];rfl
      obtain⟨u,N,Q⟩:=Y.get (x%m) hg
      have:b.cells[x%b.cells.size]! =u:=by
       rw[J]
       have h3:b.cells[x%m]? =M u:=by rw[<-g_];exact N
       rw[getElem!_def,h3]
      rw[this]
      exact Q
     obtain⟨vs,S,e7⟩:=q5 F hq o
     have j:((H_ (len*m)).map λx=>b.cells[x%b.cells.size]!)=((c_ (len*m)).map λi=>b.cells[i%b.cells.size]!).toArray:=by
      apply Array.ext';simp
     have k:cs.all F_=true:=by
      refine vi F ?_
      rw[k_]
      intro x hx
      simp only[I_]at hx
      obtain⟨i,_,rfl⟩:=hx
      have f:i%m<zs.length:=by rw[g];exact s_ _ l
      rw[f_,mo f]
      exact List.all_eq_true.1 (M_ n) _ (z_ f)
     refine fx.row (mk:=λa=> .slice (M a) len len) (el:=e) hr e7 k ?_ λρ' T=>?_
     ·simp only[Instr.buildSlice,Sem.run_bind,hI.aW w hd,Result.andThen_ok,hI.ca w hm]
      rw[if_neg O]
      by_cases U:len*m=0
      ·have q:(c_ (len*m)).map (λi=>b.cells[i%b.cells.size]!)=[]:=by simp[U]
       rw[q]at S
       have r:H_ 0=(#[]:Array Nat):=rfl
       simp[U,r,S,newRow]
      ·simp[U,e1,j,S,newRow]
     ·simp only[VR]
      have ad:=e7.length_eq
      have ap:cs.length=len*m:=by
       have key:∀(s:List (Nat×AV))(C D:List AV),mw (λi=>M (i*m,m)) C s=M D->D.length=C.length:=by
        intro s
        induction s with
        |nil=>intro C D h;simp only[mw,fE]at h;rw[h]
        |cons p s ih=>
         intro C D h
         obtain⟨i,a⟩:=p
         simp only[mw]at h
         split at h
         ·rename_i off size a6 hp _
          cases hp
          split at h
          ·rename_i hl
           rw[ih _ _ h]
           simp;omega
          ·cases h
         ·cases h
       rw[key _ _ _ F];simp
      exact⟨_,_,len,_,T,rfl,dw _,λ_=>⟨zA,by simp;omega⟩,λc' V=>by cases V;rfl⟩
    ·exact zR
   ·exact zR
  ·exact zR
 ·exact zR
end
end
section
section
variable {R:Type} {X:RI R} {sem:R->Prop} (hX:X.Ok sem) {I:ba} {P:Program} (hI:I.Ok P)
def Yields(P:Program)(H:AH)(s:Value->Sem Value)(x a:AV):Prop := ∀c ρ w v,VR ρ x v->Rel c ρ H w->∃u,(s v).run P w= .ok u w/\VR ρ a u
def q7(P:Program)(H:AH)(s:Value->Value->Sem Value)(x y a:AV):Prop := ∀c ρ w v u,VR ρ x v->VR ρ y u->Rel c ρ H w->∃b,(s v u).run P w= .ok b w/\VR ρ a b
def ql(X:RI R)(I:ba)(t:TypeId)(p:AV)(f:Nat)(K:AV->R):R :=
 match p,(I.fields t).bind (·[f]?)with
 | .ptr l k e j,M (a,o)=>match I.size a with
  |some (_+1)=>K (.ptr l k e (j+o))
  |_=>X.fail
 | .fc cs j,M (a,o)=>match I.size a with
  |some (_+1)=>K (.fc cs (j+o))
  |_=>X.fail
 |_,_=>X.fail
include hX hI in
theorem xI{t:TypeId}{p:AV}{f:Nat}{K:AV->R}(H:AH)(h:sem (ql X I t p f K)):∃a,sem (K a)/\Yields P H (λv=>Instr.fieldAt t v f) p a:=by
 unfold ql at h
 split at h
 ·rename_i l k e j G o d
  split at h
  ·rename_i n hn
   refine⟨_,h,λc ρ w v i J=>?_⟩
   simp only[VR]at i
   obtain⟨b,N,L,rfl⟩:=i
   simp only[b_]at d
   obtain⟨fl,s,m⟩:=d
   obtain⟨r,u,rfl,_⟩:=hI.fields t fl s
   simp only[e_,a_,Prod.mk.injEq]at m
   obtain⟨g,x,rfl,rfl⟩:=m
   have y:r[f]? =M g:=by rw[<-g_];exact x
   have C:(underlying t).run P w= .ok (.struct r) w:=by simp[underlying,u]
   refine⟨.pointer (M ⟨b,k*e+(j+g.offset),d_⟩),?_,by simp only[VR];exact⟨b,N,L,rfl⟩⟩
   simp[Instr.fieldAt,Instr.sureAddr,C,y,fieldPlace,hI.ca w hn,addr_add,j_]
  ·exact zR
 ·rename_i cs j G o d
  split at h
  ·rename_i n hn
   refine⟨_,h,λc ρ w v i J=>?_⟩
   simp only[VR]at i
   obtain⟨b,q,D,rfl,E,F⟩:=i
   simp only[b_]at d
   obtain⟨fl,s,m⟩:=d
   obtain⟨r,u,rfl,_⟩:=hI.fields t fl s
   simp only[e_,a_,Prod.mk.injEq]at m
   obtain⟨g,x,rfl,rfl⟩:=m
   have y:r[f]? =M g:=by rw[<-g_];exact x
   have C:(underlying t).run P w= .ok (.struct r) w:=by simp[underlying,u]
   refine⟨.pointer (M ⟨b,q+(j+g.offset),d_⟩),?_,by simp only[VR];exact⟨b,q,D,rfl,E,F⟩⟩
   simp[Instr.fieldAt,Instr.sureAddr,C,y,fieldPlace,hI.ca w hn,addr_add,j_]
  ·exact zR
 ·exact zR
def DM(X:RI R)(I:ba)(t:TypeId)(x:AV)(f:Nat)(K:AV->R):R :=
 match x,(I.fields t).bind (·[f]?)with
 | .agg cs,M (b,o)=>match apart I b cs o with
  |some a=>K a
  |none=>X.fail
 |_,_=>X.fail
include hX hI in
theorem HI{t:TypeId}{x:AV}{f:Nat}{K:AV->R}(H:AH)(h:sem (DM X I t x f K)):∃a,sem (K a)/\Yields P H (λv=>Instr.field t v f) x a:=by
 unfold DM at h
 split at h
 ·rename_i cs s o d
  split at h
  ·rename_i a ha
   refine⟨_,h,λc ρ w v e y=>?_⟩
   simp only[VR]at e
   obtain⟨vs,rfl,b⟩:=e
   simp only[b_]at d
   obtain⟨fl,k,i⟩:=d
   obtain⟨j,l,rfl,_⟩:=hI.fields t fl k
   simp only[e_,a_,Prod.mk.injEq]at i
   obtain⟨g,m,rfl,rfl⟩:=i
   have n:j[f]? =M g:=by rw[<-g_];exact m
   have p:(underlying t).run P w= .ok (.struct j) w:=by simp[underlying,l]
   obtain⟨u,q,r⟩:=j1 hI ha b w
   exact⟨u,by simp[Instr.field,p,n,asAgg,q],r⟩
  ·exact zR
 ·exact zR
def lc(X:RI R)(I:ba)(t:TypeId)(x i:AV)(K:AV->R):R :=
 match i with
 | .int _ i=>
  match I.dI t,x with
  |some (.array n e),.ptr l k b j=>match I.size e with
   |some m=>X.ak (z (0<=i)&&z (i<n)) (K (match b with|0=> .ptr l i.toNat m j|_=> .ptr l k b (j+i.toNat*m)))
   |none=>X.fail
  |some (.slice e),.slice l base k len _ a=>match I.size e with
   |some m=>if m=a then X.ak (z (0<=i)&&z (i<len)) (K (.ptr l (k+i.toNat) m base))else X.fail
   |none=>X.fail
  |some (.slice e),.own l len a=>match I.size e with
   |some m=>if m=a then X.ak (z (0<=i)&&z (i<len)) (K (.ptr l i.toNat m 0))else X.fail
   |none=>X.fail
  |some (.array n e),.fc cs j=>match I.size e with
   |some m=>X.ak (z (0<=i)&&z (i<n)) (K (.fc cs (j+i.toNat*m)))
   |none=>X.fail
  |some (.slice e),.ab len a f=>match I.size e with
   |some m=>if m=a then X.ak (z (0<=i)&&z (i<len)) (K (.fc (f i.toNat) 0))else X.fail
   |none=>X.fail
  |_,_=>X.fail
 |_=>X.fail
include hX hI in
theorem xJ{t:TypeId}{x i:AV}{K:AV->R}(H:AH)(h:sem (lc X I t x i K)):∃a,sem (K a)/\q7 P H (λv u=>Instr.indexAt t v u) x i a:=by
 unfold lc at h
 split at h
 ·rename_i V i
  split at h
  ·rename_i n e l k L j r
   split at h
   ·rename_i m s
    obtain⟨d,y⟩:=hX.ak _ _ h
    simp only[bf,bn]at d
    refine⟨_,y,λc ρ w v u g o J=>?_⟩
    simp only[VR]at g o
    obtain⟨b,N,F,rfl⟩:=g
    subst o
    refine⟨.pointer (M ⟨b,k*L+j+i.toNat*m,d_⟩),?_,?_⟩
    ·simp[Instr.indexAt,asIntOf,hI.aW w r,Instr.sureAddr,d.1,d.2,hI.ca w s,addr_add]
    ·cases L with
     |zero=>simp only[VR];exact⟨b,N,F,by simp;omega⟩
     |succ L=>simp only[VR];exact⟨b,N,F,by simp[j_]⟩
   ·exact zR
  ·rename_i e l G k len cap Q r
   split at h
   ·rename_i m s
    split at h
    ·rename_i p
     subst p
     obtain⟨d,y⟩:=hX.ak _ _ h
     simp only[bf,bn]at d
     refine⟨_,y,λc ρ w v u g o J=>?_⟩
     simp only[VR]at g o
     obtain⟨b,N,S,a,F,rfl,hl,T,_⟩:=g
     subst o
     obtain⟨rfl,_⟩:=T O
     refine⟨.pointer (M ⟨b,G+k*m+i.toNat*m,d_⟩),?_,?_⟩
     ·simp[Instr.indexAt,asIntOf,hI.aW w r,d.1,d.2,hI.ca w s,addr_add]
     ·simp only[VR];exact⟨b,N,F,by simp[i_];omega⟩
    ·exact zR
   ·exact zR
  ·rename_i e l len Q r
   split at h
   ·rename_i m s
    split at h
    ·rename_i p
     subst p
     obtain⟨d,y⟩:=hX.ak _ _ h
     simp only[bf,bn]at d
     refine⟨_,y,λc ρ w v u g o J=>?_⟩
     simp only[VR]at g o
     subst o
     rcases g with⟨U,_⟩|⟨b,N,S,F,rfl,hl,T⟩
     ·omega
     refine⟨.pointer (M ⟨b,i.toNat*m,d_⟩),?_,?_⟩
     ·simp[Instr.indexAt,asIntOf,hI.aW w r,d.1,d.2,hI.ca w s,addr_add]
     ·simp only[VR];exact⟨b,N,F,zA⟩
    ·exact zR
   ·exact zR
  ·rename_i n e cs j r
   split at h
   ·rename_i m s
    obtain⟨d,y⟩:=hX.ak _ _ h
    simp only[bf,bn]at d
    refine⟨_,y,λc ρ w v u g o J=>?_⟩
    simp only[VR]at g o
    obtain⟨b,q,D,rfl,E,C⟩:=g
    subst o
    refine⟨.pointer (M ⟨b,q+j+i.toNat*m,d_⟩),?_,?_⟩
    ·simp[Instr.indexAt,asIntOf,hI.aW w r,Instr.sureAddr,d.1,d.2,hI.ca w s,addr_add]
    ·simp only[VR];exact⟨b,q,D,by simp[j_],E,C⟩
   ·exact zR
  ·rename_i e len Q f r
   split at h
   ·rename_i m s
    split at h
    ·rename_i p
     subst p
     obtain⟨d,y⟩:=hX.ak _ _ h
     simp only[bf,bn]at d
     refine⟨_,y,λc ρ w v u g o J=>?_⟩
     simp only[VR]at g o
     subst o
     rcases g with⟨U,_⟩|⟨b,q,S,a,D,rfl,hl,g⟩
     ·omega
     obtain⟨rfl,E,C⟩:=g O
     refine⟨.pointer (M ⟨b,q+i.toNat*m,d_⟩),?_,?_⟩
     ·simp[Instr.indexAt,asIntOf,hI.aW w r,d.1,d.2,hI.ca w s,addr_add]
     ·simp only[VR];exact⟨b,q+i.toNat*m,D i.toNat,zA,E.row (λi hi=>(C i hi).1) O,(C i.toNat O).2⟩
    ·exact zR
   ·exact zR
  ·exact zR
 ·exact zR
def AV.isInt(k:IntKind):AV->Bool
 | .int a _=>z (a=k)
 |_=>false
def AV.intOf:AV->Int
 | .int _ n=>n
 |_=>0
def yg(cs:List AV)(i:Nat):Int:=(cs.map AV.intOf).getD i 0
def DN(X:RI R)(I:ba)(t:TypeId)(x i:AV)(K:AV->R):R :=
 match i with
 | .int _ i=>
  match I.dI t,x with
  |some (.array n e),.agg cs=>match I.dI e with
   |some (.int k)=>if cs.all (AV.isInt k)=true/\cs.length=n/\I.size e=M 1 then X.ak (z (0<=i)&&z (i<n)) (K (.int k (yg cs i.toNat)))else X.fail
   |_=>match I.size e with
    |some m=>X.ak (z (0<=i)&&z (i<n)) (match apart I e cs (i.toNat*m)with|some a=>K a|none=>X.fail)
    |none=>X.fail
  |some .string,.str s=>X.ak (z (0<=i)&&z (i<s.length)) (K (.int .u8 (s.getD i.toNat 0).toNat))
  |_,_=>X.fail
 |_=>X.fail
include hX hI in
theorem HJ{t:TypeId}{x i:AV}{K:AV->R}(H:AH)(h:sem (DN X I t x i K)):∃a,sem (K a)/\q7 P H (λv u=>Instr.index t v u) x i a:=by
 unfold DN at h
 split at h
 ·rename_i S i
  split at h
  ·rename_i n e cs r
   split at h
   ·rename_i k J
    split at h
    ·rename_i L
     obtain⟨q,F,o⟩:=L
     obtain⟨f,p⟩:=hX.ak _ _ h
     simp only[bf,bn]at f
     refine⟨_,p,λc ρ w v u j l G=>?_⟩
     simp only[VR]at j l
     obtain⟨vs,rfl,g⟩:=j
     subst l
     have b:i.toNat<cs.length:=O
     have y:cs[i.toNat]? =M cs[i.toNat]:=mo b
     have d:=List.all_eq_true.1 q cs[i.toNat] (z_ b)
     obtain⟨u,T,U⟩:=g.get i.toNat y
     have ha:apart I e cs (i.toNat*1)=M cs[i.toNat]:=by simp[apart,J,TypeDesc.agg,y]
     obtain⟨C,D,E⟩:=j1 hI ha g w
     refine⟨C,by simp[Instr.index,asIntOf,hI.aW w r,f.1,f.2,hI.ca w o];simpa using D,?_⟩
     have:cs[i.toNat]= .int k (yg cs i.toNat):=by
      unfold yg
      rw[f_,e_,y]
      cases hx:cs[i.toNat]with
      |int V W=>rw[hx]at d;simp[AV.isInt]at d;simp[AV.intOf,d]
      |_=>rw[hx]at d;simp[AV.isInt]at d
     rw[<-this];exact E
    ·exact zR
   ·split at h
    ·rename_i m N
     obtain⟨f,p⟩:=hX.ak _ _ h
     simp only[bf,bn]at f
     split at p
     ·rename_i a ha
      refine⟨_,p,λc ρ w v u j l G=>?_⟩
      simp only[VR]at j l
      obtain⟨vs,rfl,g⟩:=j
      subst l
      obtain⟨C,D,E⟩:=j1 hI ha g w
      exact⟨C,by simp[Instr.index,asIntOf,hI.aW w r,f.1,f.2,hI.ca w N,D],E⟩
     ·exact absurd p hX.fail
    ·exact zR
  ·rename_i s r
   obtain⟨f,p⟩:=hX.ak _ _ h
   simp only[bf,bn]at f
   refine⟨_,p,λc ρ w v u j l G=>?_⟩
   simp only[VR]at j l
   subst j l
   have b:i.toNat<s.length:=O
   refine⟨.int .u8 (s.getD i.toNat 0).toNat,?_,zB⟩
   have Q:(⟨s.toArray⟩:ByteArray)[i.toNat]? =M (s.getD i.toNat 0):=by
    rw[f_,mo b]
    have o:i.toNat<(⟨s.toArray⟩:ByteArray).size:=by simpa [ByteArray.size]using b
    rw[getElem?_pos (⟨s.toArray⟩:ByteArray) i.toNat o]
    rfl
   simp[Instr.index,asIntOf,hI.aW w r,f.1,Q]
  ·exact zR
 ·exact zR
def Pg(X:RI R)(I:ba)(t:TypeId)(x:AV)(H:AH)(K:AV->R):R :=
 match I.dI t,x with
 |some .string,.str s=>K (.int m_ s.length)
 |some (.slice _),.slice _ _ _ len _ _=>K (.int m_ len)
 |some (.slice _),.own _ len _=>K (.int m_ len)
 |some (.slice _),.aw=>K (.int m_ 0)
 |some (.array n _),_=>K (.int m_ n)
 |some (.map _ _),.map d_=>K (.int m_ 0)
 |some (.map _ _),.map (M l)=>match H.get l with
  | .map es=>match dL es with|true=>X.fail|false=>K (.int m_ es.length)
  |_=>X.fail
 |some (.slice _),.ab len _ _=>K (.int m_ len)
 |_,_=>X.fail
include hX hI in
theorem Ga{t:TypeId}{x:AV}{H:AH}{K:AV->R}(h:sem (Pg X I t x H K))(k:Array TypeId)(ht:k[0]? =M t)(ty:TypeId):
  ∃a,sem (K a)/\Yields P H (λv=>Builtin.len_ k ty #[v]) x a:=by
 unfold Pg at h
 split at h
 case h_1 s e=>
  refine⟨_,h,λc ρ w v d f=>⟨.int m_ s.length,?_,zB⟩⟩
  simp only[VR]at d;subst d
  have m:(⟨s.toArray⟩:ByteArray).size=s.length:=by simp[ByteArray.size]
  simp[Builtin.len_,ht,hI.aW w e,goInt,m]
 case h_2 len _ _ e=>
  refine⟨_,h,λc ρ w v d f=>⟨.int m_ len,?_,zB⟩⟩
  simp only[VR]at d;obtain⟨_,_,_,_,_,rfl,_⟩:=d;simp[Builtin.len_,ht,hI.aW w e,goInt]
 case h_3 len _ e=>
  refine⟨_,h,λc ρ w v d f=>⟨.int m_ len,?_,zB⟩⟩
  simp only[VR]at d;rcases d with⟨rfl,rfl⟩|⟨_,_,_,_,rfl,_⟩<;>simp[Builtin.len_,ht,hI.aW w e,goInt]
 case h_4 e=>
  refine⟨_,h,λc ρ w v d f=>⟨.int m_ 0,?_,zB⟩⟩
  simp only[VR]at d;subst d;simp[Builtin.len_,ht,hI.aW w e,goInt]
 case h_5 n _ e=>
  exact⟨_,h,λc ρ w v d f=>⟨.int m_ n,by simp[Builtin.len_,ht,hI.aW w e,goInt],zB⟩⟩
 case h_6 e=>
  refine⟨_,h,λc ρ w v d f=>⟨.int m_ 0,?_,zB⟩⟩
  simp only[VR]at d;subst d;simp[Builtin.len_,ht,hI.aW w e,goInt]
 case h_7 l e=>
  split at h
  ·rename_i o i
   split at h
   ·exact zR
   rename_i j
   refine⟨_,h,λc ρ w v d f=>?_⟩
   simp only[VR]at d
   obtain⟨b,N,p,rfl⟩:=d
   have:=f.dF l
   rw[i,p]at this
   obtain⟨C,D,ms,g,q,r,Kf,_⟩:=this
   obtain⟨u,E⟩:=Kf.plain j
   cases q
   have hl:=u.length_eq
   simp only[q_]at hl
   refine⟨.int m_ o.length,?_,zB⟩
   have y:(getObj b).run P w= .ok (.map ms.toArray g) w:=by simp[getObj,Sem.run,r]
   simp[Builtin.len_,ht,hI.aW w e,goInt,y,hl]
  ·exact zR
 case h_8 len _ _ e=>
  refine⟨_,h,λc ρ w v d f=>⟨.int m_ len,?_,zB⟩⟩
  simp only[VR]at d;rcases d with⟨rfl,rfl⟩|⟨_,_,_,_,_,rfl,_⟩<;>simp[Builtin.len_,ht,hI.aW w e,goInt]
 case h_9=>exact zR
end
end
section
section
variable {R:Type} {X:RI R} {sem:R->Prop} (hX:X.Ok sem) {I:ba} {P:Program} (hI:I.Ok P)
def dh(x:Option AV)(d:Nat):Option Int :=
 match x with
 |none=>M d
 |some (.int _ n)=>M n
 |_=>d_
def lf(x:Option AV)(v:Option Value):Prop :=
 match x,v with
 |none,d_=>True
 |some a,M u=> ∀k n,a= .int k n->u= .int k n
 |_,_=>False
def PH(X:RI R)(I:ba)(t:TypeId)(x:AV)(lo hi mx:Option AV)(H:AH)(K:AV->R):R :=
 match I.dI t,x with
 |some (.array n e),.ptr l k g j=>
  match I.size e,dh lo 0,dh hi n,mx with
  |some m,M a,M b,d_=>
   match(H.get l).at k g j (n*m)with
   |some (ok,_)=>X.ak (z (0<=a)&&z (a<=b)&&z (b<=n)&&ok) (K (.slice l (k*g+j) a.toNat (b-a).toNat (M (n-a.toNat)) m))
   |none=>X.fail
  |_,_,_,_=>X.fail
 |some .string,.str s=>
  match dh lo 0,dh hi s.length,mx with
  |some a,M b,d_=>X.ak (z (0<=a)&&z (a<=b)&&z (b<=s.length)) (K (.str ((s.drop a.toNat).take (b.toNat-a.toNat))))
  |_,_,_=>X.fail
 |some (.slice e),.slice l base k len cap d=>
  match I.size e,dh lo 0,dh hi len,mx,dh mx len with
  |some m,M a,M b,d_,_=>
   if m=d then X.ak (z (0<=a)&&z (a<=b)&&z (b<=len)) (K (.slice l base (k+a.toNat) (b-a).toNat (cap.map (· - a.toNat)) m))else X.fail
  |some m,M a,M b,M _,M c=>
   if m=d/\hi.isSome=true then X.ak (z (0<=a)&&z (a<=b)&&z (b<=c)&&z (c<=len)) (K (.slice l base (k+a.toNat) (b-a).toNat (M (c-a).toNat) m))else X.fail
  |_,_,_,_,_=>X.fail
 |some (.slice e),.aw=>
  match I.size e,dh lo 0,dh hi 0,mx,dh mx 0 with
  |some _,M a,M b,d_,_=>X.ak (z (0<=a)&&z (a<=b)&&z (b<=0)) (K .aw)
  |some _,M a,M b,M _,M c=>if hi.isSome=true then X.ak (z (0<=a)&&z (a<=b)&&z (b<=c)&&z (c<=0)) (K .aw)else X.fail
  |_,_,_,_,_=>X.fail
 |some (.slice e),.own l len d=>
  match I.size e,lo,dh hi len,mx,dh lo 0,dh mx len with
  |some m,d_,M b,d_,_,_=>if m=d then X.ak (z (0<=b)&&z (b<=len)) (K (.own l b.toNat m))else X.fail
  |some m,_,M b,d_,M a,_=>if m=d then X.ak (z (0<=a)&&z (a<=b)&&z (b<=len)&&z (0<len)) (K (.slice l 0 a.toNat (b-a).toNat d_ m))else X.fail
  |some m,_,M b,M _,M a,M c=>
   if m=d/\hi.isSome=true then X.ak (z (0<=a)&&z (a<=b)&&z (b<=c)&&z (c<=len)&&z (0<len)) (K (.slice l 0 a.toNat (b-a).toNat (M (c-a).toNat) m))else X.fail
  |_,_,_,_,_,_=>X.fail
 |some (.slice e),.ab len d f=>
  match I.size e,dh lo 0,dh hi len,mx with
  |some m,M a,M b,d_=>
   if m=d then X.ak (z (0<=a)&&z (a<=b)&&z (b<=len)) (K (.ab (b-a).toNat m (λi=>f (a.toNat+i))))else X.fail
  |_,_,_,_=>X.fail
 |_,_=>X.fail
theorem yh{P w x v a}{h:Nat}{code}(b:lf x v)(ha:dh x 0=M a)(c:0<=a)(d:a<=h):
  (match(generalizing:=false) v with
  |some v=>Instr.sliceBound v h code
  |none=>pure 0:Sem Nat).run P w= .ok a.toNat w:=by
 cases x with
 |none=>cases v with
  |none=>simp[dh]at ha;subst ha;simp
  |some v=>exact b.elim
 |some x=>cases v with
  |none=>exact b.elim
  |some v=>cases x with
   |int k n=>
    simp only[dh,fE]at ha
    subst ha
    have:=b k n A
    subst this
    simp[Instr.sliceBound,asIntOf,c,d]
   |_=>simp[dh]at ha
theorem DO{P w x v b}{d c:Nat}{code}(a:lf x v)(ha:dh x d=M b)(e:0<=b)(f:b<=c)(_:d<=c):
  (match(generalizing:=false) v with
  |some v=>Instr.sliceBound v c code
  |none=>pure d:Sem Nat).run P w= .ok b.toNat w:=by
 cases x with
 |none=>cases v with
  |none=>simp[dh]at ha;subst ha;simp
  |some v=>exact a.elim
 |some x=>cases v with
  |none=>exact a.elim
  |some v=>cases x with
   |int k n=>
    simp only[dh,fE]at ha
    subst ha
    have:=a k n A
    subst this
    simp[Instr.sliceBound,asIntOf,e,f]
   |_=>simp[dh]at ha
theorem fe{P w lo hi c d a b isSlice len cap}(g:lf lo c)(h:lf hi d)(ha:dh lo 0=M a)(i:dh hi len=M b)
  (j:0<=a) (l:a<=b) (m:b<=len) (k:len<=cap):(Instr.sliceBounds isSlice len cap c d d_).run P w= .ok (a.toNat,b.toNat,cap) w:=by
 have e:∀code,(match(generalizing:=false) d with
  |some v=>Instr.sliceBound v cap code
  |none=>pure len:Sem Nat).run P w= .ok b.toNat w:=λcode=>DO (code:=code) h i O O k
 have f:∀code,(match(generalizing:=false) c with
  |some v=>Instr.sliceBound v b.toNat code
  |none=>pure 0:Sem Nat).run P w= .ok a.toNat w:=λcode=>yh (code:=code) g ha j O
 cases d<;>cases c<;>simp[Instr.sliceBounds]at e f⊢ <;>simp[e,f]
theorem oi{P w lo hi mx d e f a b c}{len cap:Nat}(m:lf lo d)(i:lf hi (M e))(j:lf mx (M f))(ha:dh lo 0=M a)(g:dh hi len=M b)(h:dh mx len=M c)
  (o:0<=a) (t:a<=b) (u:b<=c) (p:c<=cap):(Instr.sliceBounds true len cap d (M e) (M f)).run P w= .ok (a.toNat,b.toNat,c.toNat) w:=by
 have q:∀code,(Instr.sliceBound f cap code).run P w= .ok c.toNat w:=λcode=>by
  cases mx with
  |none=>exact j.elim
  |some x=>cases x with
   |int k n=>
    simp only[dh,fE]at h;subst h
    have:=j k n A;subst this
    simp[Instr.sliceBound,asIntOf,show(0:Int)<=n by omega,p]
   |_=>simp[dh]at h
 have r:∀code,(Instr.sliceBound e c.toNat code).run P w= .ok b.toNat w:=λcode=>by
  cases hi with
  |none=>exact i.elim
  |some x=>cases x with
   |int k n=>
    simp only[dh,fE]at g;subst g
    have:=i k n A;subst this
    have s:n<=(c.toNat:Int):=O
    simp only[Instr.sliceBound,asIntOf,Sem.run_bind,Sem.run_pure,Result.andThen_ok,show(0:Int)<=n by omega,s,and_self,if_true]
   |_=>simp[dh]at g
 have l:∀code,(match(generalizing:=false) d with
  |some v=>Instr.sliceBound v b.toNat code
  |none=>pure 0:Sem Nat).run P w= .ok a.toNat w:=λcode=>yh (code:=code) m ha o O
 cases d<;>simp[Instr.sliceBounds]at l⊢ <;>simp[q,r,l]
theorem DP(b o m cap a):∃x,(if cap=a then(⟨b,o,d_⟩:Addr)else Addr.add ⟨b,o,d_⟩ (a*m))=x/\(0<cap-a->x=⟨b,o+a*m,d_⟩):=by
 refine⟨_,rfl,λh=>?_⟩
 rw[if_neg O,addr_add]
include hX hI in
theorem yi{t:TypeId}{x:AV}{lo hi mx:Option AV}{K:AV->R}(H:AH)(h:sem (PH X I t x lo hi mx H K)):
  ∃a,sem (K a)/\∀c ρ w v lv W E,VR ρ x v->lf lo lv->lf hi W->lf mx E->Rel c ρ H w->∃u,(Instr.sliceAt t v lv W E).run P w= .ok u w/\VR ρ a u:=by
 unfold PH at h
 split at h
 case h_1 n e l k e0 j Z=>
  split at h
  ·rename_i m a b T ha J
   split at h
   ·rename_i ok xs a8
    obtain⟨C,U⟩:=hX.ak _ _ h
    simp only[bf,bn]at C
    obtain⟨⟨⟨Y,L⟩,Q⟩,rfl⟩:=C
    refine⟨_,U,λc ρ w v lv W E d o g p hr=>?_⟩
    simp only[VR]at d
    obtain⟨bb,N,F,rfl⟩:=d
    have ap:=hr.dF l
    rw[F]at ap
    obtain⟨us,_,_,hN,_⟩:=ai.F6 ap a8
    cases E with
    |some _=>exact p.elim
    |none=>
     have e1:=fe (P:=P) (w:=w) (isSlice:=false) (len:=n) (cap:=n) o g ha J Y L Q (dw _)
     obtain⟨y,hy,bc⟩:=DP bb (k*e0+j) m n a.toNat
     refine⟨.slice (M y) (b.toNat-a.toNat) (n-a.toNat),?_,?_⟩
     ·simp[Instr.sliceAt,hI.aW w Z,Instr.sureAddr,e1,hI.ca w T,<-hy]
     ·simp only[VR]
      refine⟨bb,N,n-a.toNat,y,F,by congr 1;omega,O,λhp=>⟨bc hp,?_⟩,λc' S=>by cases S;rfl⟩
      have:a.toNat*m+(n-a.toNat)*m=n*m:=by rw[<-i_];congr 1;omega
      omega
   ·exact zR
  ·exact zR
 case h_2 s Z=>
  split at h
  ·rename_i a b ha J
   obtain⟨C,U⟩:=hX.ak _ _ h
   simp only[bf,bn]at C
   obtain⟨⟨Y,L⟩,Q⟩:=C
   refine⟨_,U,λc ρ w v lv W E d o g p hr=>?_⟩
   simp only[VR]at d
   subst d
   cases E with
   |some _=>exact p.elim
   |none=>
    have hz:(⟨s.toArray⟩:ByteArray).size=s.length:=by simp[ByteArray.size]
    have e1:=fe (P:=P) (w:=w) (isSlice:=false) (len:=s.length) (cap:=s.length) o g ha J Y L Q (dw _)
    refine⟨_,by simp[Instr.sliceAt,hI.aW w Z,Instr.slice,hz,e1];rfl,?_⟩
    simp only[VR]
    congr 1
    apply ByteArray.ext
    simp[List.extract_eq_take_drop]
  ·exact zR
 case h_3 e l base k len cap e1 Z=>
  split at h
  ·rename_i m a b T ha J
   split at h
   ·rename_i r
    subst r
    obtain⟨C,U⟩:=hX.ak _ _ h
    simp only[bf,bn]at C
    obtain⟨⟨Y,L⟩,Q⟩:=C
    refine⟨_,U,λc ρ w v lv W E d o g p hr=>?_⟩
    simp only[VR]at d
    obtain⟨bb,N,D,x,F,rfl,hl,V,a6⟩:=d
    cases E with
    |some _=>exact p.elim
    |none=>
     have G:=fe (P:=P) (w:=w) (isSlice:=true) (len:=len) (cap:=D) o g ha J Y L Q hl
     refine⟨.slice (M (if D=a.toNat then x else x.add (a.toNat*m))) (b.toNat-a.toNat) (D-a.toNat),?_,?_⟩
     ·simp only[Instr.sliceAt,Sem.run_bind,hI.aW w Z,Result.andThen_ok,Instr.slice,G,hI.ca w T,Sem.run_pure]
      split<;>simp
     ·simp only[VR]
      refine⟨bb,N,D-a.toNat,_,F,by congr 1;omega,O,λhp=>?_,λc' S=>?_⟩
      ·obtain⟨rfl,hN⟩:=V O
       rw[if_neg O,addr_add]
       have:a.toNat*m+(D-a.toNat)*m=D*m:=by rw[<-i_];congr 1;omega
       have e3:(k+a.toNat)*m=k*m+a.toNat*m:=i_ _ _ _
       exact⟨by rw[e3,j_],O⟩
      ·simp only[a_]at S
       obtain⟨c0,h0,rfl⟩:=S
       rw[a6 c0 h0]
   ·exact zR
  ·rename_i m a b _ cv T ha J ad
   split at h
   ·rename_i r
    obtain⟨r,ag⟩:=r
    subst r
    obtain⟨C,U⟩:=hX.ak _ _ h
    simp only[bf,bn]at C
    obtain⟨⟨⟨Y,L⟩,Q⟩,h4⟩:=C
    refine⟨_,U,λc ρ w v lv W E d o g p hr=>?_⟩
    simp only[VR]at d
    obtain⟨bb,N,D,x,F,rfl,hl,V,a6⟩:=d
    cases E with
    |none=>exact p.elim
    |some E=>
     cases W with
     |none=>cases hi<;>first|(simp at ag;done)|exact g.elim
     |some W=>
      have G:=oi (P:=P) (w:=w) (len:=len) (cap:=D) o g p ha J ad Y L Q O
      refine⟨.slice (M (if cv.toNat=a.toNat then x else x.add (a.toNat*m))) (b.toNat-a.toNat) (cv.toNat-a.toNat),?_,?_⟩
      ·simp only[Instr.sliceAt,Sem.run_bind,hI.aW w Z,Result.andThen_ok,Instr.slice,G,hI.ca w T,Sem.run_pure]
       split<;>simp
      ·simp only[VR]
       refine⟨bb,N,cv.toNat-a.toNat,_,F,by congr 1;omega,O,λhp=>?_,λc' S=>by cases S;omega⟩
       obtain⟨rfl,hN⟩:=V O
       rw[if_neg O,addr_add]
       have:a.toNat*m+(cv.toNat-a.toNat)*m<=D*m:=by rw[<-i_];exact o_ _ O
       have e3:(k+a.toNat)*m=k*m+a.toNat*m:=i_ _ _ _
       exact⟨by rw[e3,j_],O⟩
   ·exact zR
  ·exact zR
 case h_4 e Z=>
  split at h
  ·rename_i m a b T ha J
   obtain⟨C,U⟩:=hX.ak _ _ h
   simp only[bf,bn]at C
   obtain⟨⟨Y,L⟩,Q⟩:=C
   refine⟨_,U,λc ρ w v lv W E d o g p hr=>?_⟩
   simp only[VR]at d
   subst d
   cases E with
   |some _=>exact p.elim
   |none=>
    have G:=fe (P:=P) (w:=w) (isSlice:=true) (len:=0) (cap:=0) o g ha J Y L (by simpa using Q) (dw _)
    have h4:a.toNat=0:=O
    have h5:b.toNat=0:=O
    rw[h4,h5]at G
    exact⟨_,by simp[Instr.sliceAt,hI.aW w Z,Instr.slice,G,hI.ca w T];rfl,zB⟩
  ·rename_i m a b _ cv T ha J ad
   split at h
   ·rename_i ag
    obtain⟨C,U⟩:=hX.ak _ _ h
    simp only[bf,bn]at C
    obtain⟨⟨⟨Y,L⟩,Q⟩,h4⟩:=C
    refine⟨_,U,λc ρ w v lv W E d o g p hr=>?_⟩
    simp only[VR]at d
    subst d
    cases E with
    |none=>exact p.elim
    |some E=>
     cases W with
     |none=>cases hi<;>first|(simp at ag;done)|exact g.elim
     |some W=>
      have G:=oi (P:=P) (w:=w) (len:=0) (cap:=0) o g p ha J ad Y L Q (by simpa using h4)
      have h5:a.toNat=0:=O
      have h6:b.toNat=0:=O
      have h7:cv.toNat=0:=O
      rw[h5,h6,h7]at G
      exact⟨_,by simp[Instr.sliceAt,hI.aW w Z,Instr.slice,G,hI.ca w T];rfl,zB⟩
   ·exact zR
  ·exact zR
 case h_5 e l len e1 Z=>
  split at h
  ·rename_i m b T J
   split at h
   ·rename_i r
    subst r
    obtain⟨C,U⟩:=hX.ak _ _ h
    simp only[bf,bn]at C
    obtain⟨L,Q⟩:=C
    refine⟨_,U,λc ρ w v lv W E d o g p hr=>?_⟩
    cases E with
    |some _=>exact p.elim
    |none=>
    cases lv with
    |some _=>exact o.elim
    |none=>
     simp only[VR]at d⊢
     rcases d with⟨rfl,rfl⟩|⟨bb,N,D,F,rfl,hl,V⟩
     ·have G:=fe (P:=P) (w:=w) (isSlice:=true) (len:=0) (cap:=0) o g A J (Int.le_refl 0) L (by simpa using Q) (dw _)
      have h5:b.toNat=0:=O
      rw[h5]at G⊢
      exact⟨.slice d_ 0 0,by simp[Instr.sliceAt,hI.aW w Z,Instr.slice,G,hI.ca w T],.inl ⟨rfl,rfl⟩⟩
     ·have G:=fe (P:=P) (w:=w) (isSlice:=true) (len:=len) (cap:=D) o g A J (Int.le_refl 0) L Q hl
      refine⟨.slice (M ⟨bb,0,d_⟩) b.toNat D,?_,.inr ⟨bb,N,D,F,rfl,O,V⟩⟩
      simp only[Instr.sliceAt,Sem.run_bind,hI.aW w Z,Result.andThen_ok,Instr.slice,G,hI.ca w T,Sem.run_pure]
      split<;>simp[addr_add]
   ·exact zR
  ·rename_i m b a T _ J ha
   split at h
   ·rename_i r
    subst r
    obtain⟨C,U⟩:=hX.ak _ _ h
    simp only[bf,bn]at C
    obtain⟨⟨⟨Y,L⟩,Q⟩,h4⟩:=C
    refine⟨_,U,λc ρ w v lv W E d o g p hr=>?_⟩
    cases E with
    |some _=>exact p.elim
    |none=>
     simp only[VR]at d⊢
     rcases d with⟨rfl,rfl⟩|⟨bb,N,D,F,rfl,hl,V⟩
     ·omega
     ·have G:=fe (P:=P) (w:=w) (isSlice:=true) (len:=len) (cap:=D) o g ha J Y L Q hl
      refine⟨.slice (M (if D=a.toNat then⟨bb,0,d_⟩else Addr.add ⟨bb,0,d_⟩ (a.toNat*m))) (b.toNat-a.toNat) (D-a.toNat),?_,?_⟩
      ·simp only[Instr.sliceAt,Sem.run_bind,hI.aW w Z,Result.andThen_ok,Instr.slice,G,hI.ca w T,Sem.run_pure]
       split<;>simp
      ·refine⟨bb,N,D-a.toNat,_,F,by congr 1;omega,O,λhp=>?_,λc' S=>by cases S⟩
       rw[if_neg O,addr_add]
       have:a.toNat*m+(D-a.toNat)*m=D*m:=by rw[<-i_];congr 1;omega
       exact⟨rfl,O⟩
   ·exact zR
  ·rename_i m b _ a cv T J ha ad
   split at h
   ·rename_i r
    obtain⟨r,ag⟩:=r
    subst r
    obtain⟨C,U⟩:=hX.ak _ _ h
    simp only[bf,bn]at C
    obtain⟨⟨⟨⟨Y,L⟩,Q⟩,h4⟩,h5⟩:=C
    refine⟨_,U,λc ρ w v lv W E d o g p hr=>?_⟩
    simp only[VR]at d⊢
    rcases d with⟨rfl,rfl⟩|⟨bb,N,D,F,rfl,hl,V⟩
    ·omega
    cases E with
    |none=>exact p.elim
    |some E=>
     cases W with
     |none=>cases hi<;>first|(simp at ag;done)|exact g.elim
     |some W=>
      have G:=oi (P:=P) (w:=w) (len:=len) (cap:=D) o g p ha J ad Y L Q O
      refine⟨.slice (M (if cv.toNat=a.toNat then⟨bb,0,d_⟩else Addr.add ⟨bb,0,d_⟩ (a.toNat*m))) (b.toNat-a.toNat) (cv.toNat-a.toNat),?_,?_⟩
      ·simp only[Instr.sliceAt,Sem.run_bind,hI.aW w Z,Result.andThen_ok,Instr.slice,G,hI.ca w T,Sem.run_pure]
       split<;>simp
      ·refine⟨bb,N,cv.toNat-a.toNat,_,F,by congr 1;omega,O,λhp=>?_,λc' S=>by cases S;omega⟩
       rw[if_neg O,addr_add]
       have:a.toNat*m+(cv.toNat-a.toNat)*m<=D*m:=by rw[<-i_];exact o_ _ O
       exact⟨rfl,O⟩
   ·exact zR
  ·exact zR
 case h_6 e len e1 f Z=>
  split at h
  ·rename_i m a b T ha J
   split at h
   ·rename_i r
    subst r
    obtain⟨C,U⟩:=hX.ak _ _ h
    simp only[bf,bn]at C
    obtain⟨⟨Y,L⟩,Q⟩:=C
    refine⟨_,U,λc ρ w v lv W E d o g p hr=>?_⟩
    cases E with
    |some _=>exact p.elim
    |none=>
     simp only[VR]at d⊢
     rcases d with⟨rfl,rfl⟩|⟨bb,q,D,x,bd,rfl,hl,V⟩
     ·have G:=fe (P:=P) (w:=w) (isSlice:=true) (len:=0) (cap:=0) o g ha J Y L (by simpa using Q) (dw _)
      have h4:a.toNat=0:=O
      have h5:b.toNat=0:=O
      rw[h4,h5]at G
      exact⟨.slice d_ 0 0,by simp[Instr.sliceAt,hI.aW w Z,Instr.slice,G,hI.ca w T],.inl ⟨O,rfl⟩⟩
     ·have G:=fe (P:=P) (w:=w) (isSlice:=true) (len:=len) (cap:=D) o g ha J Y L Q hl
      refine⟨.slice (M (if D=a.toNat then x else x.add (a.toNat*m))) (b.toNat-a.toNat) (D-a.toNat),?_,?_⟩
      ·simp only[Instr.sliceAt,Sem.run_bind,hI.aW w Z,Result.andThen_ok,Instr.slice,G,hI.ca w T,Sem.run_pure]
       split<;>simp
      ·refine .inr ⟨bb,q+a.toNat*m,D-a.toNat,_,λi=>bd (a.toNat+i),by congr 1;omega,O,λhp=>?_⟩
       obtain⟨rfl,bi,a7⟩:=V O
       rw[if_neg O,addr_add]
       exact⟨rfl,bi.part (λi hi=>(a7 i hi).1) O,λi hi=>a7 _ O⟩
   ·exact zR
  ·exact zR
 case h_7=>exact zR
def Kt(X:RI R)(wr:Bool)(op:UnOp)(x:AV)(K:AV->R):R :=
 match op,x with
 | .neg,.int k n=>X.ak (fits wr k (0-n)).1 (K (.int k (fits wr k (0-n)).2))
 | .xor,.int k n=>K (.int k (bitsOf .xor k (if k.signed then -1 else k.max) n))
 | .not,.bool b=>K (.bool (!b))
 |_,_=>X.fail
include hX in
theorem Ku{wr:Bool}{op:UnOp}{x:AV}{K:AV->R}(H:AH)(h:sem (Kt X wr op x K)):∃a,sem (K a)/\Yields P H (λv=>Op.unary op v) x a:=by
 unfold Kt at h
 split at h
 ·rename_i k n
  obtain⟨d,e⟩:=hX.ak _ _ h
  have:=nq (wr:=wr) (k:=k) (n:=0-n) (m:=(fits wr k (0-n)).2) (by rw[<-d])
  exact⟨_,e,λc ρ w v b _=>⟨.int k (fits wr k (0-n)).2,by simp only[VR]at b;subst b;simp only[Op.unary,Op.intArith,this,Sem.run_pure],zB⟩⟩
 ·rename_i k n
  exact⟨_,h,λc ρ w v b _=>⟨_,by simp only[VR]at b;subst b;simp only[Op.unary,Op.intBits,Sem.run_pure];rfl,by simp only[VR,bitsOf]⟩⟩
 ·exact⟨_,h,λc ρ w v b _=>⟨_,by simp only[VR]at b;subst b;simp only[Op.unary,Sem.run_pure];rfl,zB⟩⟩
 ·exact zR
end
end
section
section
variable {R:Type} {X:RI R} {sem:R->Prop} (hX:X.Ok sem) {I:ba} {P:Program} (hI:I.Ok P)
def AV.pW:AV->Bool
 | .int .u8 n=>z (0<=n)&&z (n<=255)
 |_=>false
def AV.byte(a:AV):UInt8:=UInt8.ofNat a.intOf.toNat
def ai.bytes:ai->(o len:Nat)->Option (Bool×List UInt8)
 | .cells cs _,o,len=>M (z (o+len<=cs.length)&&((cs.drop o).take len).all AV.pW,((cs.drop o).take len).map AV.byte)
 | .str s _,0,len=>M (z (len=s.length),s)
 | .str s _,o+1,len=>M (z (o+1+len<=s.length),(s.drop (o+1)).take len)
 | .rows m 1 f _,o,len=>M (z (o+len<=m)&&(c_ len).all (λi=>match f (o+i)with|[a]=>a.pW|_=>false),(c_ len).map λi=>((f (o+i)).headD .any).byte)
 |_,_,_=>d_
theorem Gb{ρ a v}(h:VR ρ a v)(b:a.pW =true):v= .int .u8 (a.byte.toNat:Int):=by
 cases a with
 |int k n=>
  cases k<;>simp only[AV.pW,kH,bf,bn]at b
  simp only[VR]at h
  subst h
  simp only[AV.byte,AV.intOf]
  congr 1
  have:n.toNat<256:=O
  simp[UInt8.toNat_ofNat',Nat.mod_eq_of_lt this]
  omega
 |_=>simp[AV.pW]at b
theorem qm{n f}(h:∀i,i<n->(f i).length=1){i}(hi:i<n){a}(ha:f i=[a]):(rowsOf n f)[i]? =M a:=by
 obtain⟨t,ht⟩:=lL h hi
 rw[Nat.mul_one]at ht
 have:((rowsOf n f).drop i)[0]? =(rowsOf n f)[i]? :=by rw[w_];simp
 grind
theorem ai.vl{ρ:Env}{w:World}{r N:Nat}{b:ai}{o len:Nat}{y:List UInt8}(h:bp ρ w (M (r,N)) b)(ha:b.bytes o len=M (true,y)):
  y.length=len/\o+len<=N/\∀j (t:j<y.length),w.cell? ⟨r,o+j,d_⟩=M (.int .u8 (y[j].toNat:Int)):=by
 have key:∀(cs:List AV) rw,aJ ρ w (M (r,N)) cs rw->∀i a,cs[i]? =M a->i<N/\∃v,w.cell? ⟨r,i,d_⟩=M v/\VR ρ a v:=by
  intro cs rw C i a hi
  rcases C with⟨_,D⟩|⟨b,P,vs,rest,el,fr,h1,J,E,F,_⟩
  ·cases D
  ·cases h1
   obtain⟨v,d,c⟩:=F.get i hi
   have u:=(List.getElem?_eq_some_iff.1 d).1
   refine⟨by simp at E;omega,v,?_,c⟩
   simp only[World.cell?,J,Option.isSome_none,kH,if_false]
   grind
 have l:∀(cs:List AV) rw,aJ ρ w (M (r,N)) cs rw->cs.length<=N:=by
  intro cs rw C
  rcases C with⟨_,D⟩|⟨b,P,vs,rest,el,fr,h1,J,E,F,_⟩
  ·cases D
  ·cases h1
   have:=F.length_eq
   simp at E;omega
 cases b with
 |cells cs rw=>
  simp only[ai.bytes,fE,Prod.mk.injEq,bf,bn]at ha
  obtain⟨⟨hl,q⟩,rfl⟩:=ha
  have G:=l cs rw h
  refine⟨by simp;omega,O,λj t=>?_⟩
  simp only[q_,y_,List.length_drop]at t
  have u:o+j<cs.length:=O
  obtain⟨_,v,d,c⟩:=key cs rw h (o+j) cs[o+j] (mo u)
  have Q:cs[o+j]∈(cs.drop o).take len:=by
   rw[List.mem_iff_getElem?]
   exact⟨j,Y⟩
  have:=Gb c Y
  grind
 |rows m e f rw=>
  cases e with
  |zero=>simp[ai.bytes]at ha
  |succ e=>cases e with
   |succ e=>simp[ai.bytes]at ha
   |zero=>
    simp only[ai.bytes,fE,Prod.mk.injEq,bf,bn]at ha
    obtain⟨⟨hl,q⟩,rfl⟩:=ha
    have G:=l _ rw h.2
    rw[bE h.1]at G
    refine⟨zA,O,λj t=>?_⟩
    simp only[q_,List.length_range]at t
    have H:=List.all_eq_true.1 q j (List.mem_range.2 t)
    split at H
    ·rename_i a I
     obtain⟨_,v,d,c⟩:=key _ rw h.2 (o+j) a (qm h.1 O I)
     have:=Gb c H
     grind
    ·cases H
 |str s rw=>
  have G:=l _ rw h
  have K:(byteCells s).length=s.length:=by simp[byteCells]
  have L:∀i (hi:i<s.length),w.cell? ⟨r,i,d_⟩=M (.int .u8 (s[i].toNat:Int)):=by
   intro i hi
   obtain⟨_,v,d,c⟩:=key _ rw h i (.int .u8 s[i].toNat) (by simp[byteCells,mo hi])
   simp only[VR]at c
   rw[d,c]
  cases o with
  |zero=>
   simp only[ai.bytes,fE,Prod.mk.injEq,bn]at ha
   grind
  |succ o=>
   simp only[ai.bytes,fE,Prod.mk.injEq,bn]at ha
   grind
 |map|loop|tE|iter|iy|dX|cT|dead=>simp[ai.bytes]at ha
def PI(X:RI R)(I:ba)(e:TypeId)(x:AV)(H:AH)(K:AV->R):R :=
 match x with
 | .slice l base k len _ 1=>
  match I.dI e,(H.get l).bytes (base+k*1) len with
  |some (.int .u8),M (ok,a)=>X.ak (ok&&z (0<len)) (K (.str a))
  |_,_=>X.fail
 | .own l len 1=>
  match I.dI e,(H.get l).bytes 0 len with
  |some (.int .u8),M (ok,a)=>X.ak ok (K (.str a))
  |_,_=>X.fail
 | .aw=>
  match I.dI e with
  |some (.int .u8)=>K (.str [])
  |_=>X.fail
 |_=>X.fail
include hX hI in
theorem yj{i dst e:TypeId}(y:I.dI i=M (.slice e))(C:I.dI dst=M .string){x:AV}{H:AH}{K:AV->R}(h:sem (PI X I e x H K)):
  ∃a,sem (K a)/\∀c ρ w v,VR ρ x v->Rel c ρ H w->∃u,(convert i dst v).run P w= .ok u w/\VR ρ a u:=by
 unfold PI at h
 split at h
 case h_1 l base k len cap=>
  split at h
  ·rename_i ok p q d
   obtain⟨D,F⟩:=hX.ak _ _ h
   simp only[bf,bn]at D
   obtain⟨rfl,Q⟩:=D
   refine⟨_,F,λc ρ w v n E=>⟨.string ⟨p.toArray⟩,?_,zB⟩⟩
   simp only[VR]at n
   obtain⟨b,N,G,a,o,rfl,hl,r,_⟩:=n
   obtain⟨rfl,_⟩:=r O
   have g:=E.dF l
   rw[o]at g
   obtain⟨t,S,J⟩:=ai.vl g d
   subst t
   exact run_convert_bytes_back w i dst e _ G p (hI.dI _ _ y) (hI.dI _ _ q) (hI.dI _ _ C) λj L=>by rw[addr_add];exact J j L
  ·exact zR
 case h_2 l len=>
  split at h
  ·rename_i ok p q d
   obtain⟨D,F⟩:=hX.ak _ _ h
   subst D
   refine⟨_,F,λc ρ w v n E=>⟨.string ⟨p.toArray⟩,?_,zB⟩⟩
   simp only[VR]at n
   rcases n with⟨rfl,rfl⟩|⟨b,N,G,o,rfl,hl,r⟩
   ·have t:p=[]:=by
     cases hx:H.get l with
     |cells cs rw=>rw[hx]at d;simp[ai.bytes]at d;exact d
     |rows m e f rw=>
      rw[hx]at d
      cases e with
      |zero=>simp[ai.bytes]at d
      |succ e=>cases e with
       |succ e=>simp[ai.bytes]at d
       |zero=>simp[ai.bytes]at d;exact d
     |str s rw=>rw[hx]at d;simp[ai.bytes]at d;exact List.eq_nil_of_length_eq_zero (by rw[<-d.2];exact d.1.symm)
     |map|loop|tE|iter|iy|dX|cT|dead=>rw[hx]at d;simp[ai.bytes]at d
    subst t
    rw[run_convert_bytes_nil w i e (hI.dI _ _ y) (hI.dI _ _ q) 0 0 dst (hI.dI _ _ C)]
    rfl
   ·have g:=E.dF l
    rw[o]at g
    obtain⟨t,S,J⟩:=ai.vl g d
    subst t
    exact run_convert_bytes_back w i dst e _ G p (hI.dI _ _ y) (hI.dI _ _ q) (hI.dI _ _ C) λj L=>by rw[addr_add];exact J j L
  ·exact zR
 case h_3=>
  split at h
  ·rename_i q
   refine⟨_,h,λc ρ w v n E=>⟨.string ⟨#[]⟩,?_,zB⟩⟩
   simp only[VR]at n;subst n
   rw[run_convert_bytes_nil w i e (hI.dI _ _ y) (hI.dI _ _ q) 0 0 dst (hI.dI _ _ C)]
   rfl
  ·exact zR
 case h_4=>exact zR
def vm(X:RI R)(I:ba)(a dst:TypeId)(x:AV)(H:AH)(K:AV->AH->R):R :=
 match I.dI a,I.dI dst,x with
 |some _,M (.int k),.int _ n=>X.ak (fits I.wr k n).1 (K (.int k (fits I.wr k n).2) H)
 |some _,M .string,.str s=>K (.str s) H
 |some .string,M (.slice e),.str s=>
  match I.dI e with
  |some (.int .u8)=>K (.slice H.n 0 0 s.length d_ 1) (H.new (.str s (.ty e)))
  |_=>X.fail
 |some (.slice e),M .string,x=>PI X I e x H (λv=>K v H)
 |some (.pointer t),M .unsafePointer,.ptr l k e j=>
  match I.size t,H.get l with
  |some (_+1),.cells cs _=>X.ak (z (k*e+j<cs.length)) (K (.ptr l k e j) H)
  |_,_=>X.fail
 |some .unsafePointer,M (.pointer u),.ptr l k e j=>
  match I.size u,H.get l with
  |some (n+1),.cells cs (.ty t)=>X.ak (r_ t u&&r_ (k*e+j) 0&&z (n+1<=cs.length)) (K (.ptr l k e j) H)
  |_,_=>X.fail
 |_,_,_=>X.fail
theorem DQ{P u n}(b:P.cellsOf u=n+1){c}(e:1<=c):liesAt P P.depth u c 0 u 1=true:=by
 have a:∃d,P.depth=d+1:=⟨_,rfl⟩
 obtain⟨d,a⟩:=a
 have f:sameLayout P P.depth u u=true:=by rw[a];simp[sameLayout]
 have g:rowAt P (sameLayout P P.depth · u) P.depth u c 0 1=true:=by
  rw[a]
  simp only[rowAt,b]
  rw[<-a]
  simp[f,e]
 rw[a]
 simp only[liesAt]
 rw[g];rfl
theorem aJ.shape{ρ:Env}{w:World}{r N:Nat}{cs:List AV}{a:Access}(h:aJ ρ w (M (r,N)) cs a):∃el,w.shape? r=M (el,N)/\cs.length<=N/\∀t,a= .ty t->el=t:=by
 rcases h with⟨_,c⟩|⟨b,l,vs,rest,el,fr,h1,d,f,i,j,_⟩
 ·cases c
 ·cases h1
  have:=i.length_eq
  refine⟨el,by simp only[World.shape?,d];grind,by simp at f;omega,j.ty⟩
include hX hI in
theorem Bt{F dst:TypeId}{x:AV}{H:AH}{K:AV->AH->R}(h:sem (vm X I F dst x H K)):
  ∃a H',sem (K a H')/\∀c ρ w v,VR ρ x v->Rel c ρ H w->fx P (convert F dst v) c ρ w a H':=by
 unfold vm at h
 split at h
 case h_1 d k k0 n q r=>
  obtain⟨o,y⟩:=hX.ak _ _ h
  have:=nq (wr:=I.wr) (k:=k) (n:=n) (m:=(fits I.wr k n).2) (by rw[<-o])
  refine⟨_,_,y,λc ρ w v f p=>fx.same (v:=.int k (fits I.wr k n).2) ?_ p zB⟩
  simp only[VR]at f;subst f
  simp only[convert,Sem.run_bind,hI.aW w q,hI.aW w r,Result.andThen_ok]
  cases d<;>simp[Conv.intToInt,this]
 case h_2 d s q r=>
  refine⟨_,_,h,λc ρ w v f p=>fx.same (v:=v) ?_ p f⟩
  simp only[VR]at f;subst f
  simp only[convert,Sem.run_bind,hI.aW w q,hI.aW w r,Result.andThen_ok]
  cases d<;>simp
 case h_3 e s q r=>
  split at h
  ·rename_i J
   refine⟨_,_,h,λc ρ w v f p=>?_⟩
   simp only[VR]at f;subst f
   have G:=run_bytes_of_string (P:=P) w F dst e ⟨s.toArray⟩ (hI.dI _ _ q) (hI.dI _ _ r) (hI.dI _ _ J)
   have hz:(⟨s.toArray⟩:ByteArray).size=s.length:=by simp[ByteArray.size]
   rw[hz]at G
   generalize hg:grownCap w s.length 0 e=E at G
   have T:s.length<=E:=by rw[<-hg];simp[grownCap,Question.cut]
   have L:(bytesRow ⟨s.toArray⟩ E)=((s.map λb=>p_ .u8 b.toNat)++D_ (E-s.length) (p_ .u8 0)).toArray:=by
    simp[bytesRow,hz]
   have U:=p.drawn (w.drawn+1)
   have C:∀i,i<s.length->((λi=>[AV.int .u8 (s.getD i 0).toNat]) i).length=1:=λi _=>rfl
   have V:∀ρ':Env,aU ρ' (rowsOf s.length (λi=>[AV.int .u8 (s.getD i 0).toNat])) (s.map λb=>p_ .u8 b.toNat):=by
    intro ρ'
    refine aU.vj (by rw[bE C];simp) λi a v o y=>?_
    have hi:i<s.length:=by
     have:=(List.getElem?_eq_some_iff.1 y).1
     simpa using this
    rw[qm C hi A]at o
    cases o
    simp only[e_,mo hi,l_,fE]at y
    subst y
    simp[VR,f_,mo hi]
   obtain⟨hx,W⟩:=U.new (.cells (bytesRow ⟨s.toArray⟩ E) e ((bytesRow ⟨s.toArray⟩ E).size,(bytesRow ⟨s.toArray⟩ E).size+1)) E
    (.str s (.ty e)) λw' Y=>by
     refine .inr ⟨_,_,s.map (λb=>p_ .u8 b.toNat),D_ (E-s.length) (p_ .u8 0),e,_,rfl,by rw[<-L];exact Y,by simp;omega,(kJ s)▸V _,⟨λ_ i hi=>by rw[L];simp;omega,λe J=>by cases J;rfl,λ_ J=>by cases J⟩,λv f=>?_,λe=>zG⟩
     ·simp only[I_]at f;obtain⟨_,_,rfl⟩:=f;rfl
   refine⟨_,_,_,G,hx,W,?_,⟨zA,λk hk=>?_⟩⟩
   ·simp only[VR]
    exact⟨w.heap.size,E,E,_,Env.cP _ _ _,rfl,T,λ_=>⟨zA,O⟩,λc' Z=>by cases Z⟩
   ·exact iz hk
  ·exact zR
 case h_4 q r ad=>
  obtain⟨a,o,y⟩:=yj hX hI q r h
  exact⟨a,H,o,λc ρ w v f p=>by
   obtain⟨u,Q,h4⟩:=y c ρ w v f p
   exact fx.same Q p h4⟩
 case h_5 t l k e j q r=>
  split at h
  ·rename_i n cs a hn hl
   obtain⟨o,y⟩:=hX.ak _ _ h
   simp only[bn]at o
   refine⟨_,_,y,λc ρ w v f p=>?_⟩
   have D:=f
   simp only[VR]at D
   obtain⟨b,N,hb,rfl⟩:=D
   have g:=p.dF l
   rw[hb,hl]at g
   obtain⟨el,G,e2,_⟩:=aJ.shape g
   obtain⟨i,S,i2⟩:=hI.size _ _ hn
   exact fx.same (Lib.run_to_unsafe w ⟨b,k*e+j,d_⟩ (hI.dI _ _ q) (hI.dI _ _ r) S O G (O:k*e+j<N)) p f
  ·exact zR
 case h_6 u l k e j q r=>
  split at h
  ·rename_i n cs t hn hl
   obtain⟨o,y⟩:=hX.ak _ _ h
   simp only[bf,bn]at o
   obtain⟨⟨o,Q⟩,h4⟩:=o
   have o:=dE o
   have Q:=dE Q
   subst o
   refine⟨_,_,y,λc ρ w v f p=>?_⟩
   have D:=f
   simp only[VR]at D
   obtain⟨b,N,hb,rfl⟩:=D
   have g:=p.dF l
   rw[hb,hl]at g
   obtain⟨el,G,e2,e3⟩:=aJ.shape g
   have:=e3 _ A
   subst this
   obtain⟨i,S,i2⟩:=hI.size _ _ hn
   have hc:P.cellsOf el=n+1:=by simp[Program.cellsOf,S,i2]
   refine fx.same (Lib.run_from_unsafe w ⟨b,k*e+j,d_⟩ (hI.dI _ _ q) (hI.dI _ _ r) S G ?_) p f
   show liesAt P P.depth el (N/P.cellsOf el) (k*e+j) el 1=true
   rw[Q,hc]
   exact DQ hc (by rw[Nat.le_div_iff_mul_le O];omega)
  ·exact zR
 case h_7=>exact zR
end
end
section
section
variable {R:Type} {X:RI R} {sem:R->Prop} (hX:X.Ok sem) {I:ba} {P:Program} (hI:I.Ok P)
theorem PJ{zs n}(a:0<zs.length){i}(hi:i<n*zs.length):(rowsOf n (λ_=>zs))[i]? =zs[i%zs.length]? :=by
 have b:i/zs.length<n:=Nat.div_lt_of_lt_mul Y
 obtain⟨t,ht⟩:=lL (n:=n) (e:=zs.length) (f:=λ_=>zs) (λ_ _=>rfl) b
 have c:i/zs.length*zs.length+i%zs.length=i:=by rw[Nat.mul_comm];exact Nat.div_add_mod i zs.length
 have d:((rowsOf n (λ_=>zs)).drop (i/zs.length*zs.length))[i%zs.length]? =(rowsOf n (λ_=>zs))[i]? :=by rw[w_,c]
 rw[<-d,ht,List.getElem?_append_left (s_ _ a)]
def qn(X:RI R)(I:ba)(t:TypeId)(l c:AV)(H:AH)(K:AV->AH->R):R :=
 match I.dI t,l,c with
 |some (.slice e),.int _ n,.int _ m=>
  match I.size e,I.bytes e,(I.zero e).bind L_ with
  |some a,M b,M zs=>
   if zs.length=a/\0<a then
    X.ak (z (0<=n)&&z (n<=m)&&xF ((b:Int)*m) 281474976710656&&xF m 9223372036854775807)
     (K (.slice H.n 0 0 n.toNat (M m.toNat) a) (H.new (.rows n.toNat a (λ_=>zs) (.ty e))))
   else X.fail
  |_,_,_=>X.fail
 |_,_,_=>X.fail
include hX hI in
theorem xK{t:TypeId}{l U:AV}{H:AH}{K:AV->AH->R}(h:sem (qn X I t l U H K)):
  ∃a H',sem (K a H')/\∀c ρ w v u,VR ρ l v->VR ρ U u->Rel c ρ H w->fx P (Instr.makeSlice t v u) c ρ w a H':=by
 unfold qn at h
 split at h
 ·rename_i e k1 n k2 m hd
  split at h
  ·rename_i d C zs D E V
   split at h
   ·rename_i hc
    obtain⟨g,ad⟩:=hc
    obtain⟨ha,hK⟩:=hX.ak _ _ h
    simp only[bf,bn,iH]at ha
    obtain⟨⟨⟨h1,h2⟩,h3⟩,h4⟩:=ha
    refine⟨_,_,hK,λc ρ w v u x W Y=>?_⟩
    simp only[VR]at x W
    subst x W
    simp only[b_]at V
    obtain⟨Z,F,o⟩:=V
    obtain⟨i,b,e1,e2,e3⟩:=hI.zero e Z F
    obtain⟨i',e4,e5⟩:=hI.size e d D
    obtain⟨ag,e6,e7⟩:=hI.bytes e C E
    rw[e1]at e4 e6
    cases e4
    cases e6
    have f:=VR.cells (jZ ρ b Z e3) o
    have G:b.cells.size=d:=by rw[<-n_,<-f.length_eq,g]
    have run:=run_make (P:=P) w t e i b (hI.dI _ _ hd) e1 e2 k1 k2 n m h1 h2 (by rw[e7];exact h3) h4
    rw[e5]at run
    have p:n.toNat*d<=m.toNat*d:=o_ _ O
    have ap:(madeCells b.cells (m.toNat*d)).toList.length=m.toNat*d:=by simp[size_madeCells]
    have q:∀j,j<m.toNat*d->(madeCells b.cells (m.toNat*d)).toList[j]? =b.cells.toList[j%d]? :=by
     intro j y
     have r:j%b.cells.size<b.cells.size:=s_ _ O
     simp only[madeCells,Array.toList_map,Array.toList_range,e_,List.getElem?_range y,l_]
     rw[getElem!_pos b.cells _ r,g_,<-G,Array.getElem?_eq_getElem r]
    have s:∀ρ',aU ρ' zs b.cells.toList->aU ρ' (rowsOf n.toNat (λ_=>zs)) ((madeCells b.cells (m.toNat*d)).toList.take (n.toNat*d)):=by
     intro ρ' J
     refine aU.vj (by rw[bE (e:=d) (λ_ _=>g)];simp[size_madeCells,C_ p]) λj a v L h6=>?_
     have y:j<n.toNat*d:=by
      have:=(List.getElem?_eq_some_iff.1 L).1
      rwa[bE (e:=d) (λ_ _=>g)]at this
     rw[PJ O (by rw[g];exact y),g]at L
     rw[List.getElem?_take_of_lt y,q j O]at h6
     obtain⟨v',h7,h8⟩:=J.get _ L
     rw[h6]at h7;cases h7;exact h8
    have k:(rowsOf n.toNat (λ_=>zs)).all F_=true:=by
     simp only[rowsOf,List.all_flatMap,k_]
     exactλ_ _=>List.all_eq_true.1 (M_ o)
    obtain⟨hx,N⟩:=Y.new (.cells (madeCells b.cells (m.toNat*d)) e) (m.toNat*d) (.rows n.toNat d (λ_=>zs) (.ty e)) λw' Q=>by
     refine⟨λ_ _=>g,.inr ⟨_,_,(madeCells b.cells (m.toNat*d)).toList.take (n.toNat*d),(madeCells b.cells (m.toNat*d)).toList.drop (n.toNat*d),e,(0,0),rfl,?_,by simp[size_madeCells],s _ (aU.ext (Env.nk _ (Y.top _ (dw _))) _ _ f),⟨λ_ j _ hh=>by simp at hh,λe S=>by cases S;rfl,λ_ S=>by cases S⟩,λv x=>aU.Kl (s ρ f) k v x,λe=>zG⟩⟩
     rw[List.take_append_drop]
     simpa using Q
    refine⟨_,_,_,run,hx,N,?_,mu.push _ _⟩
    simp only[VR]
    exact⟨w.heap.size,m.toNat*d,m.toNat,_,Env.cP _ _ _,rfl,O,λ_=>⟨zA,O⟩,λc' T=>by cases T;rfl⟩
   ·exact zR
  ·exact zR
 ·exact zR
def my:TypeDesc->AV->AV->Option Bool
 | .int _,.int k a,.int c b=>if k=c then M (a==b)else d_
 | .string,.str a,.str b=>M (a==b)
 | .bool,.bool a,.bool b=>M (a==b)
 |_,_,_=>d_
def DR(I:ba)(kt:TypeId)(c:TypeDesc)(a b:AV):Option Bool :=
 match c with
 | .array _ _=>xH I 10000 kt a b
 |c=>my c a b
theorem sw(I)(kt)(c)(h:∀n e,c≠ .array n e):DR I kt c=my c:=by
 funext a b
 unfold DR
 simp
def pX(I:ba)(a:TypeDesc)(k:AV):Bool :=
 match a,k with
 | .array n e,.agg cs=>match I.dI e,I.size e with
  |some (.int _),M m=>(c_ n).all λi=>(apart I e cs (i*m)).isSome
  |_,_=>false
 | .array _ _,_=>false
 |a,k=>(my a k k).isSome
def yl(X:RI R)(eq:AV->AV->Option Bool)(k:AV)(a:R)(found:AV->R):List (AV×AV)->R
 |[]=>a
 |(c,v)::es=>match eq k c with
  |some b=>X.cond b (λ_=>found v) (λ_=>yl X eq k a found es)
  |none=>X.fail
def uH(X:RI R)(I:ba)(t:TypeId)(m k:AV)(ok:Bool)(H:AH)(K:AV->R):R :=
 match I.dI t with
 |some (.map kt e)=>
  match I.dI kt,I.zero e with
  |some b,M a=>
   match(match m with
    | .map d_=>M []
    | .map (M l)=>match H.get l with
     | .map es=>M es
     |_=>d_
    |_=>d_:Option (List (AV×AV)))with
   |some es=>
    match pX I b k with
    |true=>match dL es with
     |false=>yl X (DR I kt b) k (K (bif ok then .bK [a,.bool false]else a)) (λv=>K (bif ok then .bK [v,.bool true]else v)) es
     |true=>match b with
      | .array _ _=>X.fail
      |_=>yl X (my b) k X.fail (λv=>K (bif ok then .bK [v,.bool true]else v)) (gK es)
    |false=>X.fail
   |none=>X.fail
  |_,_=>X.fail
 |_=>X.fail
theorem vn{e a b r}(h:my e a b=M r){ρ u v}(c:VR ρ a u)(d:VR ρ b v):Instr.sameNow e u v=M r:=by
 unfold my at h
 split at h
 ·split at h
  ·rename_i f
   simp only[VR]at c d
   subst c d
   simp[Instr.sameNow,f];grind
  ·cases h
 ·simp only[VR]at c d
  subst c d
  simp only[Instr.sameNow,beq_toListBytes,ByteArray.toList_mk]
  exact h
 ·simp only[VR]at c d
  subst c d
  assumption
 ·cases h
def iM(eq:AV->AV->Option Bool)(k:AV):List (AV×AV)->Option (Option (Nat×AV))
 |[]=>M d_
 |(a,v)::es=>match eq k a with
  |some true=>M (M (0,v))
  |some false=>match iM eq k es with
   |some (M (i,v))=>M (M (i+1,v))
   |r=>r
  |none=>d_
theorem sx{eq:AV->AV->Option Bool}{k:AV}{a:R}{found:AV->R}(hX:X.Ok sem):∀{c:List (AV×AV)},sem (yl X eq k a found c)->
  (sem a/\iM eq k c=M d_)∨∃i v,sem (found v)/\iM eq k c=M (M (i,v))
 |[],h=> .inl ⟨h,rfl⟩
 |(j,v)::c,h=>by
  simp only[yl]at h
  split at h
  ·rename_i b d
   have e:=hX.cond _ _ _ h
   cases b with
   |true=>exact .inr ⟨0,v,by simpa using e,by simp[iM,d]⟩
   |false=>
    simp only[kH,if_false]at e
    rcases sx hX e with⟨h1,f⟩|⟨i,g,h1,f⟩
    ·exact .inl ⟨h1,by simp[iM,d,f]⟩
    ·exact .inr ⟨i+1,g,h1,by simp[iM,d,f]⟩
  ·exact zR
theorem q8{d k ρ e}(c:VR ρ k e):∀{b ms r},iM (my d) k b=M r->
  aU ρ (b.map (·.1)) (ms.map (·.key))->aU ρ (b.map (·.2)) (ms.map (·.val))->∀j,
  match r with
  |none=>Instr.findNow d e ms j=M d_
  |some (i,v)=> ∃m,ms[i]? =M m/\Instr.findNow d e ms j=M (M (j+i,m.val))/\VR ρ v m.val
 |[],ms,r,h,h1,a,j=>by
  have:ms=[]:=by simp only[t_,aU]at h1;simpa using h1
  subst this
  simp only[iM,fE]at h
  subst h
  rfl
 |(l,v)::b,[],r,h,h1,a,j=>by simp[aU]at h1
 |(l,v)::b,m::ms,r,h,h1,a,j=>by
  simp only[h_,aU.aL]at h1 a
  simp only[iM]at h
  split at h
  ·rename_i f
   cases h
   exact⟨m,rfl,by simp[Instr.findNow,vn f c h1.1],a.1⟩
  ·rename_i f
   have g:=vn f c h1.1
   split at h
   ·rename_i i u hi
    cases h
    obtain⟨n,o,q,s⟩:=q8 c hi h1.2 a.2 (j+1)
    exact⟨n,by simpa using o,by simp[Instr.findNow,g,q];omega,s⟩
   ·have t:=q8 c h h1.2 a.2 (j+1)
    cases r with
    |none=>simpa [Instr.findNow,g]using t
    |some p=>
     grind
  ·cases h
include hI in
theorem vp{kt:TypeId}{k:AV}{ρ:Env}{b:Value}(d:VR ρ k b)(w:World):∀{c:List (AV×AV)}{ms:List MapEntry}{r:Option (Nat×AV)},iM (xH I 10000 kt) k c=M r->
  aU ρ (c.map (·.1)) (ms.map (·.key))->aU ρ (c.map (·.2)) (ms.map (·.val))->∀j,
  match r with
  |none=>(Instr.findAsking kt b ms j).run P w= .ok d_ w
  |some (i,v)=> ∃m,ms[i]? =M m/\(Instr.findAsking kt b ms j).run P w= .ok (M (j+i,m.val)) w/\VR ρ v m.val
 |[],ms,r,h,h1,a,j=>by
  have:ms=[]:=by simp only[t_,aU]at h1;simpa using h1
  subst this
  simp only[iM,fE]at h
  subst h
  simp[Instr.findAsking]
 |(l,v)::c,[],r,h,h1,a,j=>by simp[aU]at h1
 |(l,v)::c,m::ms,r,h,h1,a,j=>by
  simp only[h_,aU.aL]at h1 a
  simp only[iM]at h
  split at h
  ·rename_i f
   cases h
   have e:=vh hI 10000 kt _ _ _ f ρ b m.key w d h1.1
   exact⟨m,rfl,by simp[Instr.findAsking,Op.equal,Op.maxDepth,e],a.1⟩
  ·rename_i f
   have e:=vh hI 10000 kt _ _ _ f ρ b m.key w d h1.1
   split at h
   ·rename_i i u hi
    cases h
    obtain⟨n,o,q,s⟩:=vp d w hi h1.2 a.2 (j+1)
    exact⟨n,by simpa using o,by simp[Instr.findAsking,Op.equal,Op.maxDepth,e,q];omega,s⟩
   ·have t:=vp d w h h1.2 a.2 (j+1)
    cases r with
    |none=>simpa [Instr.findAsking,Op.equal,Op.maxDepth,e]using t
    |some p=>
     rename_i g
     exact absurd h (g p.1 p.2)
  ·cases h
include hI in
theorem gM{kt:TypeId}{g:TypeDesc}(b:I.dI kt=M g){k:AV}{ρ:Env}{d:Value}(o:VR ρ k d)(w:World){f:List (AV×AV)}{ms:List MapEntry}{r:Option (Nat×AV)}(h:iM (DR I kt g) k f=M r)
  (j:aU ρ (f.map (·.1)) (ms.map (·.key))) (q:aU ρ (f.map (·.2)) (ms.map (·.val))):
  match r with
  |none=>(Instr.findKey kt d ms).run P w= .ok d_ w
  |some (i,v)=> ∃m,ms[i]? =M m/\(Instr.findKey kt d ms).run P w= .ok (M (i,m.val)) w/\VR ρ v m.val:=by
 cases g with
 |array n e=>
  have c:=vp (P:=P) hI o w h j q 0
  have a:Instr.findNow (.array n e) d ms 0=d_∨ms=[]:=by
   cases ms with
   |nil=>exact .inr A
   |cons m ms=>exact .inl (by simp[Instr.findNow,Instr.sameNow])
  rcases a with a|rfl
  ·cases r with
   |none=>simpa [Instr.findKey,hI.aW w b,a]using c
   |some p=>simpa [Instr.findKey,hI.aW w b,a]using c
  ·have l:f=[]:=by simpa [aU]using j.length_eq
   subst l
   simp only[iM,fE]at h
   subst h
   simp[Instr.findKey,hI.aW w b,Instr.findNow]
 |_=>
  rw[sw I kt _ (by intro _ _ e;cases e)]at h
  have c:=q8 o h j q 0
  cases r with
  |none=>simp[Instr.findKey,hI.aW w b,c]
  |some p=>
   obtain⟨m,s,t,u⟩:=c
   exact⟨m,s,by simp[Instr.findKey,hI.aW w b,t],u⟩
theorem DS{a k r}(h:my a k k=M r):(∃q,a= .int q)∨a= .string∨a= .bool:=by
 unfold my at h
 grind
theorem vq{P}(f:Nat->Sem Unit)(w):∀(is:List Nat),(∀i∈is,(f i).run P w= .ok () w)->
  (forIn (m:=Sem) is PUnit.unit (λi _=>do f i;pure (ForInStep.yield PUnit.unit))).run P w= .ok PUnit.unit w
 |[],_=>zA
 |i::is,h=>by
  simp only[List.forIn_cons,Sem.run_bind,h i x_,Result.andThen_ok,Sem.run_pure]
  exact vq f w is Y
include hI in
theorem run_checkKey{kt:TypeId}{h:TypeDesc}(j:I.dI kt=M h){k:AV}(b:pX I h k=true)(c:Bool)(n:Nat){ρ:Env}{v:Value}(l:VR ρ k v)(w:World):(Instr.checkKey c (n+2) kt v).run P w= .ok () w:=by
 unfold pX at b
 split at b
 ·rename_i len e cs
  split at b
  ·rename_i q m o p
   simp only[VR]at l
   obtain⟨vs,rfl,f⟩:=l
   unfold Instr.checkKey
   simp only[Sem.run_bind,hI.aW w j,Result.andThen_ok]
   simp only[Std.Legacy.Range.forIn_eq_forIn_range',Std.Legacy.Range.size,Nat.sub_zero,Nat.add_one_sub_one,Nat.div_one]
   have key:∀i∈J_ 0 len,((do Instr.checkKey c (n+1) e (<-part e vs.toArray (i*(<-sizeOf e))):Sem Unit)).run P w= .ok () w:=by
    intro i hi
    have g:i∈c_ len:=by simpa [List.range_eq_range']using hi
    have:=List.all_eq_true.1 b i g
    obtain⟨a,ha⟩:=Option.isSome_iff_exists.1 this
    obtain⟨u,s,_⟩:=j1 hI ha f w
    simp only[Sem.run_bind,hI.ca w p,Result.andThen_ok,s]
    unfold Instr.checkKey
    simp only[Sem.run_bind,hI.aW w o,Result.andThen_ok]
    rfl
   have:=vq (P:=P) (λi=>(do Instr.checkKey c (n+1) e (<-part e vs.toArray (i*(<-sizeOf e))):Sem Unit)) w (J_ 0 len) key
   simp at this⊢
   rw[this]
   rfl
  ·cases b
 ·cases b
 ·rename_i x y
  obtain⟨r,t⟩:=Option.isSome_iff_exists.1 b
  have d:=DS t
  unfold Instr.checkKey
  simp only[Sem.run_bind,hI.aW w j,Result.andThen_ok]
  rcases d with⟨q,rfl⟩|rfl|rfl<;>cases v<;>rfl
include hX hI in
theorem vu{t:TypeId}{m k:AV}{ok:Bool}{H:AH}{K:AV->R}(h:sem (uH X I t m k ok H K)):
  ∃a,sem (K a)/\q7 P H (λj f=>Instr.lookup t j f ok) m k a:=by
 unfold uH at h
 split at h
 ·rename_i kt e hd
  split at h
  ·rename_i W d r hz
   split at h
   ·rename_i Z g
    split at h
    ·rename_i q
     have D:∀c ρ w j,VR ρ m j->Rel c ρ H w->∃ms:List MapEntry,r9 ρ Z ms/\
       ∀f,(Instr.lookup t j f ok).run P w=((do
        Instr.checkKey ms.toArray.isEmpty 10000 kt f
        let(v,found)<-match <-Instr.findKey kt f ms with
         |some (_,v)=>pure (v,true)
         |none=>pure (<-zeroValue e,false)
        pure (if ok then .tuple #[v,.bool found]else v)):Sem Value).run P w:=by
      intro c ρ w j o s
      cases m with
      |map l=>
       cases l with
       |none=>
        simp only[fE]at g
        subst g
        simp only[VR]at o
        subst o
        exact⟨[],r9.mk A zH zH,λf=>by simp only[Instr.lookup,Sem.run_bind,hI.aW w hd,Result.andThen_ok,Sem.run_pure];rfl⟩
       |some l=>
        simp only at g
        cases hb:H.get l with
        |map a6=>
         rw[hb]at g
         cases g
         simp only[VR]at o
         obtain⟨b,N,ad,rfl⟩:=o
         have E:=s.dF l
         rw[hb,ad]at E
         obtain⟨b',N',ms,J,e1,e2,Kf,_⟩:=E
         cases e1
         have hg:(getObj b).run P w= .ok (.map ms.toArray J) w:=by simp[getObj,Sem.run,e2]
         exact⟨ms,Kf,λf=>by simp only[Instr.lookup,Sem.run_bind,hI.aW w hd,Result.andThen_ok,Sem.run_pure,hg];rfl⟩
        |_=>rw[hb]at g;simp at g
      |_=>simp at g
     split at h
     rotate_left
     ·rename_i Q
      have S:∀n e,W≠ .array n e:=λn e hh=>by subst hh;exact hX.fail h
      have h:sem (yl X (my W) k X.fail (λv=>K (bif ok then .bK [v,.bool true]else v)) (gK Z)):=by
       cases W<;>first|exact h|exact absurd A (S _ _)
      rcases sx hX h with⟨x,_⟩|⟨i,v,x,L⟩
      ·exact absurd x hX.fail
      ·refine⟨_,x,λc ρ w j f o y s=>?_⟩
       obtain⟨ms,⟨a7,g1,g2,_,g4⟩,h3⟩:=D c ρ w j o s
       obtain⟨F,_,g5,g6⟩:=q8 y L g1 g2 0
       obtain⟨i',g7⟩:=g4 _ _ _ _ g5
       have C:=run_checkKey (P:=P) hI r q ms.toArray.isEmpty 9998 y w
       have O:(Instr.findKey kt f ms).run P w= .ok (M (i',F.val)) w:=by simp[Instr.findKey,hI.aW w r,g7]
       rw[h3 f]
       refine⟨if ok then .tuple #[F.val,.bool true]else F.val,?_,?_⟩
       ·simp only[Sem.run_bind,C,Result.andThen_ok,O,Sem.run_pure]
       ·cases ok
        ·simpa using g6
        ·simp only[cond_true,if_true,VR];exact⟨[F.val,.bool true],rfl,aU.aL.2 ⟨g6,aU.aL.2 ⟨zB,zH⟩⟩⟩
     rename_i Q
     have T:∀c ρ w j f,VR ρ m j->VR ρ k f->Rel c ρ H w->∀Y,iM (DR I kt W) k Z=M Y->∃u,(Instr.lookup t j f ok).run P w= .ok u w/\
       VR ρ (match Y with|none=>(bif ok then .bK [d,.bool false]else d)|some p=>(bif ok then .bK [p.2,.bool true]else p.2)) u:=by
      intro c ρ w j f o y s Y U
      obtain⟨ms,ag,h3⟩:=D c ρ w j o s
      obtain⟨x,L⟩:=ag.plain Q
      have G:=gM (P:=P) hI r y w U x L
      have C:=run_checkKey (P:=P) hI r q ms.toArray.isEmpty 9998 y w
      rw[h3 f]
      cases Y with
      |none=>
       obtain⟨zv,ap,V⟩:=hI.mq w hz
       refine⟨if ok then .tuple #[zv,.bool false]else zv,?_,?_⟩
       ·simp only[Sem.run_bind,C,Result.andThen_ok,G,Sem.run_pure,ap]
       ·cases ok
        ·simpa using V ρ
        ·simp only[cond_true,if_true,VR];exact⟨[zv,.bool false],rfl,aU.aL.2 ⟨V ρ,aU.aL.2 ⟨zB,zH⟩⟩⟩
      |some p=>
       obtain⟨F,_,h4,h5⟩:=G
       refine⟨if ok then .tuple #[F.val,.bool true]else F.val,?_,?_⟩
       ·simp only[Sem.run_bind,C,Result.andThen_ok,h4,Sem.run_pure]
       ·cases ok
        ·simpa using h5
        ·simp only[cond_true,if_true,VR];exact⟨[F.val,.bool true],rfl,aU.aL.2 ⟨h5,aU.aL.2 ⟨zB,zH⟩⟩⟩
     rcases sx hX h with⟨x,L⟩|⟨i,v,x,L⟩
     ·exact⟨_,x,λc ρ w j f o y s=>T c ρ w j f o y s d_ L⟩
     ·exact⟨_,x,λc ρ w j f o y s=>T c ρ w j f o y s (M (i,v)) L⟩
    ·exact zR
   ·exact zR
  ·exact zR
 ·exact zR
def kK:List AV->Option (List Int)
 |[]=>M []
 | .int m_ x::cs=>(kK cs).map λl=>x::l
 |_=>d_
def dx(ks:List Int):List AV:=ks.map λx=> .int m_ x
theorem jG:∀{cs ks},kK cs = M ks -> cs = dx ks
  |[],ks,h => by simp only[kK,fE]at h; subst h; rfl
  |c ::cs,ks,h => by
    cases c with
    |int k x =>
      cases k <;> first
        | (simp only [kK, a_] at h
           obtain⟨l,a,rfl⟩ := h
           rw[jG a]; rfl)
        |(simp[kK]at h; done)
    |_ => simp[kK]at h
def jD(n:Nat)(f:Nat->List Int)(ks:List Int):Option Nat:=(c_ n).find? λi=>f i==ks
def uI(n:Nat)(f:Nat->List Int)(ks:List Int)(j:Nat):Bool:=match jD n f ks with|some i=>r_ i j|none=>false
def Kv(n:Nat)(f:Nat->List Int)(ks:List Int):Bool:=match jD n f ks with|some _=>false|none=>true
def ln(n:Nat)(f:Nat->List Int)(m:Nat):Bool:=(c_ n).all λi=>r_ (f i).length m
theorem ym{eq:AV->AV->Option Bool}(d:∀x y,eq (.int m_ x) (.int m_ y)=M (x==y)){I:ba}{e:TypeId}{kk:IntKind}(k:I.dI e=M (.int kk)){a b:List Int}:∀is:List Nat,(∀i∈is,i<a.length/\i<b.length)->
  DK eq I e 1 (dx a) (dx b) is=M (is.all λi=>a[i]? ==b[i]?)
 |[],_=>rfl
 |i::is,h=>by
  obtain⟨f,g⟩:=h i x_
  have l:∀c:List Int,i<c.length->apart I e (dx c) (i*1)=(c[i]?).map λx=> .int m_ x:=by
   intro c n
   simp[apart,k,TypeDesc.agg,dx]
  rw[DK,l a f,l b g,mo f,mo g]
  simp only[l_,Option.bind_some,d,ym d k is (λj m=>h j (u_ _ m)),List.all_cons,mo f,mo g]
  rfl
theorem Ph{a b:List Int}{n}(ha:a.length=n)(c:b.length=n):((c_ n).all λi=>a[i]? ==b[i]?)=(a==b):=by
 rw[Bool.eq_iff_iff]
 simp only[k_,E_,beq_iff_eq]
 constructor
 ·intro h
  apply List.ext_getElem?
  grind
 grind
theorem Kw{I kt c len kk}(f:I.dI kt=M (.array len c))(e:I.dI c=M (.int kk))(g:I.size c=M 1){a b}(ha:a.length=len)(h:b.length=len)(d):
  xH I (d+2) kt (.agg (dx a)) (.agg (dx b))=M (a==b):=by
 unfold xH
 simp only[f,g]
 rw[ym (kk:=kk) (λx y=>by unfold xH;simp[e]) e _ ZD,Ph ha h]
theorem mz{I kt a len kk}(b:I.dI kt=M (.array len a))(c:I.dI a=M (.int kk))(d:I.size a=M 1){ks}(g:ks.length=len){f:Nat->List Int}{Q:Nat->AV}:∀L:List Nat,(∀i∈L,(f i).length=len)->
  (∀i,L.find? (λi=>f i==ks)=M i->∃p,L[p]? =M i/\iM (DR I kt (.array len a)) (.agg (dx ks)) (L.map λi=>(v_ (dx (f i)),Q i))=M (M (p,Q i)))/\
  (L.find? (λi=>f i==ks)=d_->iM (DR I kt (.array len a)) (.agg (dx ks)) (L.map λi=>(v_ (dx (f i)),Q i))=M d_)
 |[],_=>⟨zA,λ_=>rfl⟩
 |i::L,h=>by
  obtain⟨k,l⟩:=mz b c d g (f:=f) (Q:=Q) L ZD
  have e:DR I kt (.array len a) (.agg (dx ks)) (.agg (dx (f i)))=M (ks==f i):=Kw (kk:=kk) b c d g Y 9998
  have j:(ks==f i)=(f i==ks):=by rw[Bool.eq_iff_iff];simp only[beq_iff_eq];exact eq_comm
  simp only[h_,iM,e,List.find?_cons,j]
  grind
def q9(X:RI R)(I:ba)(t:TypeId)(m k:AV)(ok:Bool)(H:AH)(K:AV->R):R :=
 match m,k with
 | .map (M l),.agg cs=>match H.get l with
  | .cT n f _ foc=>match I.dI t,kK cs with
   |some (.map kt e),M ks=>match I.dI kt,I.zero e with
    |some (.array len c),M b=>match I.dI c,I.size c with
     |some (.int _),M 1=>match foc with
      |none=>X.ak (r_ ks.length len&&ln n f len&&Kv n f ks) (K (bif ok then .bK [b,.bool false]else b))
      |some (j,a)=>X.ak (r_ ks.length len&&ln n f len&&uI n f ks j) (K (bif ok then .bK [a,.bool true]else a))
     |_,_=>X.fail
    |_,_=>X.fail
   |_,_=>X.fail
  |_=>uH X I t m k ok H K
 |_,_=>uH X I t m k ok H K
theorem rc{n f m}(h:ln n f m=true):∀i∈c_ n,(f i).length=m:=λi hi=>dE (List.all_eq_true.1 h i hi)
theorem PK{ρ}(ks):VR ρ (.agg (dx ks)) (iL ks):=by
 simp only[VR,iL]
 refine⟨_,rfl,?_⟩
 induction ks with
 |nil=>simp[dx,aU]
 |cons x ks a=>
  simp only[dx,h_]at a⊢
  exact aU.aL.2 ⟨zB,a⟩
theorem Bu{ρ:Env}{n:Nat}{f:Nat->List Int}{Q:Nat->AV}{u:Nat->Value}(h:∀i,i<n->VR ρ (Q i) (u i)):
  aU ρ (((c_ n).map λi=>(v_ (dx (f i)),Q i)).map (·.1)) ((bT n f u).map (·.key))/\aU ρ (((c_ n).map λi=>(v_ (dx (f i)),Q i)).map (·.2)) ((bT n f u).map (·.val)):=by
 have:∀L:List Nat,(∀i∈L,i<n)->aU ρ ((L.map λi=>(v_ (dx (f i)),Q i)).map (·.1)) ((L.map λi=>({key:=iL (f i),val:=u i,born:=i}:MapEntry)).map (·.key))/\aU ρ ((L.map λi=>(v_ (dx (f i)),Q i)).map (·.2)) ((L.map λi=>({key:=iL (f i),val:=u i,born:=i}:MapEntry)).map (·.val)):=by
  intro L
  induction L with
  |nil=>intro _;simp[aU]
  |cons i L a=>
   intro hL
   obtain⟨b,d⟩:=a λj c=>hL j (u_ _ c)
   simp only[h_]
   exact⟨aU.aL.2 ⟨PK _,b⟩,aU.aL.2 Y⟩
 exact this _ λi hi=>List.mem_range.1 hi
include hX hI in
theorem tH{t:TypeId}{m k:AV}{ok:Bool}{H:AH}{K:AV->R}(h:sem (q9 X I t m k ok H K)):
  ∃a,sem (K a)/\q7 P H (λo q=>Instr.lookup t o q ok) m k a:=by
 unfold q9 at h
 split at h
 ·rename_i l cs
  split at h
  ·rename_i n f Q foc hb
   split at h
   ·rename_i kt e ks hd U
    split at h
    ·rename_i len et d r hz
     split at h
     ·rename_i kk v J
      have V:=jG U
      subst V
      have key:∀c ρ w o q,VR ρ (.map (M l)) o->VR ρ (.agg (dx ks)) q->Rel c ρ H w->ks.length=len->ln n f len=true->∃(u:Nat->Value),(∀i,i<n->VR ρ (Q i) (u i))/\(∀j a,foc=M (j,a)->j<n/\VR ρ a (u j))/\
        (∀j,jD n f ks=M j->(Instr.lookup t o q ok).run P w= .ok (if ok then .tuple #[u j,.bool true]else u j) w)/\
        (jD n f ks=d_->∃x,(∀ρ,VR ρ d x)/\(Instr.lookup t o q ok).run P w= .ok (if ok then .tuple #[x,.bool false]else x) w):=by
       intro c ρ w o q G y L hl hg
       simp only[VR]at G
       obtain⟨b,N,W,rfl⟩:=G
       have s:=L.dF l
       rw[hb,W]at s
       obtain⟨b',N',u,e1,e2,e3,e4⟩:=s
       cases e1
       have S:(getObj b).run P w= .ok (.map (bT n f u).toArray n) w:=by simp[getObj,Sem.run,e2]
       have C:pX I (.array len et) (.agg (dx ks))=true:=by
        simp only[pX,v,J,k_,E_]
        intro i hi
        simp[apart,v,TypeDesc.agg,dx,mo (O:i<ks.length)]
       have T:=run_checkKey (P:=P) hI r C (bT n f u).toArray.isEmpty 9998 y w
       obtain⟨v1,v2⟩:=Bu (f:=f) e3
       obtain⟨a1,a2⟩:=mz (kk:=kk) r v J hl (f:=f) (Q:=λi=>Q i) (c_ n) (rc hg)
       refine⟨u,e3,e4,λj hj=>?_,λD=>?_⟩
       ·obtain⟨p,Y,Z⟩:=a1 j hj
        have E:=gM (P:=P) hI r y w Z v1 v2
        obtain⟨me,f1,f2,f3⟩:=E
        have:me.val=u j:=by
         simp only[bT,e_,Y,l_,fE]at f1
         subst f1;rfl
        simp only[Instr.lookup,Sem.run_bind,hI.aW w hd,Result.andThen_ok,Sem.run_pure,S,T,f2,this]
       ·have E:=gM (P:=P) hI r y w (a2 D) v1 v2
        obtain⟨x,ad,ag⟩:=hI.mq w hz
        exact⟨x,ag,by simp only[Instr.lookup,Sem.run_bind,hI.aW w hd,Result.andThen_ok,Sem.run_pure,S,T,E,ad]⟩
      split at h
      ·have hc:=hX.ak _ _ h
       obtain⟨g,F⟩:=hc
       simp only[bf]at g
       refine⟨_,F,λc ρ w o q G y L=>?_⟩
       obtain⟨u,_,_,_,k4⟩:=key c ρ w o q G y L (dE g.1.1) g.1.2
       have D:jD n f ks=d_:=by
        have:=g.2
        unfold Kv at this
        split at this
        ·cases this
        ·assumption
       obtain⟨x,z1,z2⟩:=k4 D
       refine⟨_,z2,?_⟩
       cases ok
       ·simpa using z1 ρ
       ·simp only[cond_true,if_true,VR];exact⟨[x,.bool false],rfl,aU.aL.2 ⟨z1 ρ,aU.aL.2 ⟨zB,zH⟩⟩⟩
      ·rename_i j a
       have hc:=hX.ak _ _ h
       obtain⟨g,F⟩:=hc
       simp only[bf]at g
       refine⟨_,F,λc ρ w o q G y L=>?_⟩
       obtain⟨u,_,k2,k3,_⟩:=key c ρ w o q G y L (dE g.1.1) g.1.2
       have ap:jD n f ks=M j:=by
        have:=g.2
        unfold uI at this
        split at this
        ·rename_i i hi;rw[hi,dE this]
        ·cases this
       refine⟨_,k3 j ap,?_⟩
       have:=(k2 j a A).2
       cases ok
       ·simpa using this
       ·simp only[cond_true,if_true,VR];exact⟨[u j,.bool true],rfl,aU.aL.2 ⟨this,aU.aL.2 ⟨zB,zH⟩⟩⟩
     ·exact zR
    ·exact zR
   ·exact zR
  ·exact vu hX hI h
 ·exact vu hX hI h
end
end
section
section
variable {R:Type} {X:RI R} {sem:R->Prop} (hX:X.Ok sem) {I:ba} {P:Program} (hI:I.Ok P)
def Operand.isConst:Operand->Bool
 | .const _=>true
 |_=>false
def DT(X:RI R)(I:ba)(t:TypeId)(c neg:Bool)(a b:AV)(K:AV->R):R :=
 match(match a,b with
  | .nilIface,.nilIface=>c
  | .agg _,.agg _=>I.OI t
  |_,_=>true:Bool),xH I 10000 t a b with
 |true,M r=>K (.bool (bif neg then !r else r))
 |_,_=>X.fail
def DU:AV->Option Nat
 | .own _ n _=>M n
 | .ab n _ _=>M n
 |_=>d_
def Tb(X:RI R)(I:ba)(op:BinOp)(t:TypeId)(c:Bool)(a b:AV)(K:AV->R):R :=
 match a,b with
 | .int k x,.int d y=>
  match op with
  | .shl| .shr=>Lm X I.wr op k x y K
  |_=>if k=d then Ko X I.wr op k x y K else X.fail
 | .str x,.str y=>Kq X op x y K
 |a,b=>
  match DU a,b with
  |some n,.aw=>match I.dI t,op with
   |some (.slice _),.eql=>X.ak (A_ 0 n) (K (.bool false))
   |some (.slice _),.neq=>X.ak (A_ 0 n) (K (.bool true))
   |_,_=>X.fail
  |_,_=>match op with
   | .eql=>DT X I t c false a b K
   | .neq=>DT X I t c true a b K
   |_=>X.fail
theorem HK{a n}(h:DU a=M n)(hn:A_ 0 n=true){ρ u}(b:VR ρ a u):∃x c,u= .slice (M x) n c:=by
 have hn:0<n:=by simpa [Nat.blt_eq]using hn
 cases a<;>simp only[DU,fE,reduceCtorEq]at h
 ·subst h
  simp only[VR]at b
  grind
 ·subst h
  simp only[VR]at b
  grind
theorem AV.Tc{ρ a v}(h:VR ρ a v)(c:∀k n,a≠ .int k n)(d:∀s,a≠ .str s)(b:a≠ .any):(∀k n,v≠ .int k n)/\(∀s,v≠ .string s)/\(∀k n,v≠ .float k n)/\(∀k n m,v≠ .complex k n m):=by
 cases a with
 |int k n=>grind
 |str s=>grind
 |any=>exact absurd A b
 |bool|nilPtr|aw|aB|nilIface|addr=>simp only[VR]at h;subst h;simp
 |ptr=>simp only[VR]at h;grind
 |slice=>simp only[VR]at h;grind
 |own=>simp only[VR]at h;grind
 |map l=>cases l<;>simp only[VR]at h<;>first|(subst h;simp;done)|grind
 |fn=>simp only[VR]at h;grind
 |yield=>simp only[VR]at h;grind
 |iface=>simp only[VR]at h;grind
 |agg=>simp only[VR]at h;grind
 |bK=>simp only[VR]at h;grind
 |fc=>simp only[VR]at h;grind
 |ab=>simp only[VR]at h;grind
theorem vr{P w t u v r}(h:(Op.equalIn 10000 t u v).run P w= .ok r w)(c:∀k n,u≠ .int k n)(_:∀k n,v≠ .int k n)(a:∀s,u≠ .string s)(b:∀k n,u≠ .float k n)(d:∀k n m,u≠ .complex k n m):
  (binOp .eql t u v).run P w= .ok (.bool r) w/\(binOp .neq t u v).run P w= .ok (.bool (!r)) w:=by
 cases u<;>first
  |exact absurd A (c _ _)
  |exact absurd A (a _)
  |exact absurd A (b _ _)
  |exact Y
  |(constructor<;>simp[binOp,Op.equal,Op.maxDepth,h])
theorem Bv{I d t a b r}(h:xH I d t a b=M r):a≠ .any/\b≠ .any:=by
 cases d with
 |zero=>simp[xH]at h
 |succ d=>
  constructor
  ·rintro rfl;unfold xH at h;grind
  ·rintro rfl;unfold xH at h;grind
theorem lM{P}(op)(t)(x y)(u v)(w)(c:u= .nilIface->v= .nilIface->(Operand.isConst x||Operand.isConst y)=true)
  (d:∀e f,u= .agg e->v= .agg f->P.eqGuardType P.depth t=false):(eqGuard op t x y u v).run P w= .ok () w:=by
 have a:∀(op:BinOp),(op= .eql∨op= .neq)->(eqGuard op t x y u v).run P w= .ok () w:=by
  intro op b
  rcases b with rfl|rfl
  all_goals
   unfold eqGuard
   simp only[Bool.not_true,kH,if_false]
   split
   ·have g:=c A A
    clear c d
    revert g
    cases x<;>cases y<;>simp[Operand.isConst]
   all_goals simp_all
 cases op<;>first|exact a _ (.inl A)|exact a _ (.inr A)|rfl
theorem HL{I d t a b r}(h:xH I d t a b=M r):
  (∀k n,a= .int k n->∃c e,b= .int c e)/\(∀k n,b= .int k n->∃c e,a= .int c e)/\(∀s,a= .str s->∃f,b= .str f):=by
 cases d with
 |zero=>simp[xH]at h
 |succ d=>
  refine⟨?_,?_,?_⟩
  ·rintro k n rfl;unfold xH at h;grind
  ·rintro k n rfl;unfold xH at h;grind
  ·rintro s rfl;unfold xH at h;grind
theorem HN{R X}{sem:R->Prop}(hX:X.Ok sem){I t c neg a b K}(h:sem (DT X I t c neg a b K)):∃r,xH I 10000 t a b=M r:=by
 unfold DT at h
 split at h
 grind
 ·exact zR
include hX hI in
theorem Gc{t:TypeId}{d neg:Bool}{a b:AV}{K:AV->R}(h:sem (DT X I t d neg a b K))(F:∀k n,a≠ .int k n)(G:∀s,a≠ .str s)(H:∀k n,b≠ .int k n):
  ∃r:Bool,sem (K (.bool (bif neg then !r else r)))/\∀ρ w u v (x y:Operand) (op:BinOp),(d=true->(Operand.isConst x||Operand.isConst y)=true)->VR ρ a u->VR ρ b v->
   (eqGuard op t x y u v).run P w= .ok () w/\(binOp .eql t u v).run P w= .ok (.bool r) w/\(binOp .neq t u v).run P w= .ok (.bool (!r)) w:=by
 unfold DT at h
 split at h
 ·rename_i r D E
  refine⟨r,h,λρ w u v x y op J f g=>?_⟩
  obtain⟨j,m⟩:=Bv E
  have c:=AV.Tc f F G j
  have L:=vh hI 10000 t a b r E ρ u v w f g
  have o:∀k n,v≠ .int k n:=by
   intro k n e
   subst e
   revert g
   cases b with
   |int N O=>exact absurd A (H _ _)
   |any=>exact absurd A m
   |map l=>cases l<;>simp[VR]
   |_=>simp[VR]
  refine⟨lM op t x y u v w (λp q=>?_) (λQ S p q=>?_),vr L c.1 o c.2.1 c.2.2.1 c.2.2.2⟩
  ·subst p q
   have ha:a= .nilIface:=by
    revert f
    cases a with
    |nilIface=>intro _;rfl
    |any=>exact absurd A j
    |map l=>cases l<;>simp[VR]
    |_=>simp[VR]
   have C:b= .nilIface:=by
    revert g
    cases b with
    |nilIface=>intro _;rfl
    |any=>exact absurd A m
    |map l=>cases l<;>simp[VR]
    |_=>simp[VR]
   subst ha C
   exact J D
  ·subst p q
   have ha:∃as,a= .agg as:=by
    revert f
    cases a with
    |agg as=>intro _;exact⟨as,rfl⟩
    |any=>exact absurd A j
    |map l=>cases l<;>simp[VR]
    |_=>simp[VR]
   have C:∃i,b= .agg i:=by
    revert g
    cases b with
    |agg i=>intro _;exact⟨i,rfl⟩
    |any=>exact absurd A m
    |map l=>cases l<;>simp[VR]
    |_=>simp[VR]
   obtain⟨as,rfl⟩:=ha
   obtain⟨i,rfl⟩:=C
   exact hI.OI t D
 ·exact zR
include hX hI in
theorem Pj{op:BinOp}{t:TypeId}{C:Bool}{a b:AV}{K:AV->R}(h:sem (Tb X I op t C a b K)):
  ∃f,sem (K f)/\∀ρ w u v (x y:Operand),(C=true->(Operand.isConst x||Operand.isConst y)=true)->VR ρ a u->VR ρ b v->
   ∃r,((do eqGuard op t x y u v;binOp op t u v:Sem Value).run P w= .ok r w)/\VR ρ f r:=by
 unfold Tb at h
 split at h
 ·rename_i k x J y
  have E:∀{D:Value}{f:AV},(∀ρ,VR ρ f D)->(∀w,(binOp op t (.int k x) (.int J y)).run P w= .ok D w)->∀ρ w u v (p q:Operand),(C=true->(Operand.isConst p||Operand.isConst q)=true)->VR ρ (.int k x) u->VR ρ (.int J y) v->
   ∃r,((do eqGuard op t p q u v;binOp op t u v:Sem Value).run P w= .ok r w)/\VR ρ f r:=by
   intro D f g i ρ w u v p q _ l j
   simp only[VR]at l j
   subst l j
   have N:=lM (P:=P) op t p q (.int k x) (.int J y) w (λe=>zG) (λ_ _ e=>zG)
   exact⟨D,by simp only[Sem.run_bind,N,Result.andThen_ok,i w],g ρ⟩
  split at h
  ·obtain⟨D,f,g,i,m⟩:=vg hX P h t
   exact⟨f,g,E i (λw=>m w)⟩
  ·obtain⟨D,f,g,i,m⟩:=vg hX P h t
   exact⟨f,g,E i (λw=>m w)⟩
  ·split at h
   ·rename_i W
    subst W
    obtain⟨D,f,g,i,m⟩:=Kp hX P h t
    exact⟨f,g,E i (λw=>m w)⟩
   ·exact zR
 ·rename_i x y
  obtain⟨D,f,g,i,m⟩:=Kr hX P h t
  refine⟨f,g,λρ w u v p q _ l j=>?_⟩
  simp only[VR]at l j
  subst l j
  have N:=lM (P:=P) op t p q (.string ⟨x.toArray⟩) (.string ⟨y.toArray⟩) w (λe=>zG) (λ_ _ e=>zG)
  exact⟨D,by simp only[Sem.run_bind,N,Result.andThen_ok,m w],i ρ⟩
 ·rename_i n1 Y
  have shape:∀{neg:Bool},sem (DT X I t C neg a b K)->(∀k n,a≠ .int k n)/\(∀s,a≠ .str s)/\(∀k n,b≠ .int k n):=by
   intro neg Z
   obtain⟨r,hr⟩:=HN hX Z
   obtain⟨s1,s2,s3⟩:=HL hr
   refine⟨λk n e=>?_,λs e=>?_,λk n e=>?_⟩
   ·obtain⟨J,n',L⟩:=s1 k n e;exact n1 _ _ _ _ e L
   ·obtain⟨s',L⟩:=s3 s e;exact Y _ _ e L
   ·obtain⟨J,n',L⟩:=s2 k n e;exact n1 _ _ _ _ L e
  split at h
  ·rename_i n O
   have key:∀G,I.dI t=M (.slice G)->A_ 0 n=true->∀ρ w u v (p q:Operand) (op:BinOp),VR ρ a u->VR ρ .aw v->
     (eqGuard op t p q u v).run P w= .ok () w/\(binOp .eql t u v).run P w= .ok (.bool false) w/\(binOp .neq t u v).run P w= .ok (.bool true) w:=by
    intro G o hn ρ w u v p q op l j
    obtain⟨x,c,rfl⟩:=HK O hn l
    simp only[VR]at j
    subst j
    refine⟨lM op t p q _ _ w (λe=>zG) (λ_ _ e=>zG),?_⟩
    have Q:∀d,(Op.equalIn (d+1) t (.slice (M x) n c) (.slice d_ 0 0)).run P w= .ok false w:=λd=>by simp[Op.equalIn,hI.aW w o]
    have:=vr (P:=P) (w:=w) (t:=t) (u:=.slice (M x) n c) (v:=.slice d_ 0 0) (r:=false) (Q 9999) zA zA zA zA zA
    exact this
   split at h
   ·rename_i G o
    obtain⟨g,i⟩:=hX.ak _ _ h
    refine⟨_,i,λρ w u v p q _ l j=>?_⟩
    obtain⟨F,H,_⟩:=key G o g ρ w u v p q .eql l j
    exact⟨.bool false,by simp only[Sem.run_bind,F,Result.andThen_ok,H],zB⟩
   ·rename_i G o
    obtain⟨g,i⟩:=hX.ak _ _ h
    refine⟨_,i,λρ w u v p q _ l j=>?_⟩
    obtain⟨F,_,H⟩:=key G o g ρ w u v p q .neq l j
    exact⟨.bool true,by simp only[Sem.run_bind,F,Result.andThen_ok,H],zB⟩
   ·exact zR
  split at h
  ·obtain⟨g,i,m⟩:=shape h
   obtain⟨r,S,T⟩:=Gc hX hI h g i m
   refine⟨_,S,λρ w u v p q U l j=>?_⟩
   obtain⟨F,H,V⟩:=T ρ w u v p q .eql U l j
   exact⟨.bool r,by simp only[Sem.run_bind,F,Result.andThen_ok,H],by simp only[VR,cond_false]⟩
  ·obtain⟨g,i,m⟩:=shape h
   obtain⟨r,S,T⟩:=Gc hX hI h g i m
   refine⟨_,S,λρ w u v p q U l j=>?_⟩
   obtain⟨F,H,V⟩:=T ρ w u v p q .neq U l j
   exact⟨.bool (!r),by simp only[Sem.run_bind,F,Result.andThen_ok,V],by simp only[VR,cond_true]⟩
  ·exact zR
end
end
end
end Go.Sx
