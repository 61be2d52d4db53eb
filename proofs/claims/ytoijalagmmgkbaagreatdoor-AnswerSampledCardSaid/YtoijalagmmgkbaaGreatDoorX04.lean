/- Lemmas, part 4. -/
import Derived.Laws.Append
import Derived.Test.YtoijalagmmgkbaaGreatDoorX03
import Derived.RangeFuncRecord
import Derived.ScopeJumps
import Derived.Lib.UnsafeStr
import Derived.Maps.RangeRun
set_option linter.all false
set_option linter.defProp false
set_option maxRecDepth 1000000
namespace Go.Sx
open Go
open Option renaming some->M,none->c_,map_some->R_,bind_some->f?
open _root_.Array renaming getElem?_setIfInBounds->z,ext'->e_,toList_modify->u_,getD_eq_getD_getElem?->w_,length_toList->d?,toList_filter->e?
open Nat renaming beq->a_,zero_add->b_,blt->d_,blt_eq->h_,mul_le_mul_right->i_,zero_mul->n_,ble->x_,min->B_,lt_add_one->J_,succ_mul->P_,add_zero->Q_,add_mul->T_,ble_eq->V_,le_trans->b?,lt_of_lt_of_le->g?,min_le_left->o?,succ_le_iff->p?,add_assoc->s?
open List renaming map_cons->f_,range->g_,eq_nil_of_length_eq_zero->k_,append_assoc->m_,map_nil->p_,ext_getElem?->q_,take_append_of_le_length->r_,getElem?_modify->s_,map_append->t_,length_append->y_,push_toArray->z_,getElem?_set->A_,take_of_length_le->C_,nil_append->D_,length_map->E_,length_nil->F_,take_append_drop->G_,drop_zero->H_,range'->I_,map_congr_left->K_,getElem?_range->L_,getElem?_drop->M_,getElem?_map->O_,getD_eq_getElem?_getD->U_,getElem?_take_of_lt->W_,drop_of_length_le->Z_,map_map->a?,flatMap_def->i?,range_succ->l?,mem_filter->m?,drop_drop->n?,all_cons->r?,map_set->u?
open Decidable renaming decide->j_
open Go.IntKind renaming i64->l_
open Bool renaming eq_false_iff->o_
open Classical renaming byContradiction->v_
open AV renaming int->N_,byte->j?,bool->k?,pW->t?,cells?->v?
open Go.Value renaming slice->S_,int->X_
open AH renaming cV->Y_,get_set_same->q?
open Function renaming comp_def->c?,comp->h?
noncomputable section
def fF(H:AH)(e:Nat):AV->Option (Bool×Nat×(Nat->List AV)×Bool)
 | .slice l base k len _ a=>
  if e=a/\0<e then
   match(H.get l).un with
   | .cells cs _=>M (j_ (base+k*e+len*e<=cs.length),len,λi=>(cs.drop (base+k*e+i*e)).take e,true)
   | .rows m e1 f _=>if e1=e/\base=0 then M (j_ (k+len<=m),len,λi=>f (k+i),false)else c_
   |_=>c_
  else c_
 | .own l len a=>
  if e=a/\0<e then
   match(H.get l).un with
   | .cells cs _=>M (j_ (len*e<=cs.length),len,λi=>(cs.drop (i*e)).take e,true)
   | .rows m e1 f _=>if e1=e then M (j_ (len<=m),len,f,false)else c_
   |_=>c_
  else c_
 | .aw=>if 0<e then M (true,0,λ_=>[],true)else c_
 | .ab len a f=>if e=a/\0<e then M (true,len,f,false)else c_
 | .str s=>if e=1 then M (true,s.length,λi=>[.int .u8 (s.getD i 0).toNat],false)else c_
 |_=>c_
def gY{n:Nat}{f g:Nat->List AV}(h:∀i,i<n->f i=g i):rowsOf n f=rowsOf n g:=by
 unfold rowsOf
 rw[i?,i?]
 congr 1
 exact K_ λi hi=>h i (List.mem_range.1 hi)
def iP{cs:List AV}{o e:Nat}(a:0<e):∀{n:Nat},o+n*e<=cs.length->rowsOf n (λi=>(cs.drop (o+i*e)).take e)=(cs.drop o).take (n*e)
 |0,_=>by simp[rowsOf]
 |n+1,h=>by
  rw[P_]at h
  rw[dl,iP a O,P_,List.take_add,n?]
def ns{m:Nat}{f:Nat->List AV}:∀{n k:Nat},k+n<=m->∃a b,rowsOf m f=a++rowsOf n (λi=>f (k+i))++b/\a=rowsOf k f
 |n,k,h=>by
  obtain⟨d,rfl⟩:∃d,m=k+n+d:=⟨m-(k+n),O⟩
  refine⟨rowsOf k f,rowsOf d (λi=>f (k+n+i)),?_,rfl⟩
  have add:∀a b (g:Nat->List AV),rowsOf (a+b) g=rowsOf a g++rowsOf b (λi=>g (a+i)):=by
   intro a b g
   induction b with
   |zero=>simp[rowsOf]
   |succ b c=>rw[<-s?,dl,c,dl,m_]
  rw[add (k+n) d f,add k n f]
def jH(a b:Nat)(g:Nat->List AV):rowsOf (a+b) g=rowsOf a g++rowsOf b (λi=>g (a+i)):=by
 induction b with
 |zero=>simp[rowsOf]
 |succ b c=>rw[<-s?,dl,c,dl,m_]
def aJ.read{ρ:Env}{P:Program}{w:World}{r N:Nat}{cs:List AV}{rw:Access}(h:aJ ρ w (M (r,N)) cs rw){o n:Nat}(hl:o+n<=cs.length):
  o+n<=N/\∃us:List Value,aU ρ ((cs.drop o).take n) us/\us.length=n/\(∀v∈us,v.oneCell'=true)/\∀d,(loadCells ⟨r,o,c_⟩ n).run P {w with drawn:=d}= .ok us.toArray {w with drawn:=d}:=by
 rcases h with⟨_,j⟩|⟨b,s,vs,rest,el,fr,e1,l,m,c,t,q,u⟩
 ·cases j
 ·cases e1
  have f:=c.length_eq
  simp only[y_]at m
  refine⟨O,(vs.drop o).take n,(c.drop o).take n,by simp;omega,λv a=>q v (List.mem_of_mem_drop (List.mem_of_mem_take a)),λd=>?_⟩
  have hn:((vs.drop o).take n).length=n:=by simp;omega
  have key:=jF (P:=P) (w:={w with drawn:=d}) (us:=(vs.drop o).take n) (r:=r) (o:=o) λi v a=>by
   have hi:i<n:=by
    have:=(List.getElem?_eq_some_iff.1 a).1
    omega
   rw[W_ hi,M_]at a
   have:({w with drawn:=d}:World).heap[r]? =M (.cells (vs++rest).toArray el fr):=l
   simp only[World.cell?,this,Option.isSome_none,kH,if_false,List.getElem?_toArray]
   rw[List.getElem?_append_left O]
   exact a
  rw[hn]at key
  exact key
def QL{P:Program}{H:AH}{e:Nat}{x:AV}{len:Nat}{f:Nat->List AV}{cl:Bool}(h:fF H e x=M (true,len,f,cl)){c:fw}{ρ:Env}{w:World}{v:Value}(u:VR ρ x v)(hr:Rel c ρ H w):
  (∀i,i<len->(f i).length=e)/\(Builtin.lenOf v).run P w= .ok len w/\∀n,n<=len->∃us:List Value,aU ρ (rowsOf n f) us/\us.length=n*e/\(∀v∈us,v.oneCell'=true)/\∀d,(Builtin.firstCells e n v).run P {w with drawn:=d}= .ok us.toArray {w with drawn:=d}:=by
 cases x with
 |slice l base k p cap e'=>
  simp only[fF]at h
  split at h
  ·rename_i Q
   obtain⟨rfl,F⟩:=Q
   simp only[VR]at u
   obtain⟨b,N,cc,a,V,rfl,hl,y,_⟩:=u
   have j:=(hr.dF l).un
   rw[V]at j
   split at h
   ·rename_i cs rw B
    rw[B]at j
    simp only[fE,Prod.mk.injEq,bn]at h
    obtain⟨R,rfl,rfl,rfl⟩:=h
    refine⟨λi hi=>?_,by simp[Builtin.lenOf],λn hn=>?_⟩
    ·have:i*e+e<=p*e:=by
      have:=i_ e (O:i+1<=p)
      rw[P_]at this;exact this
     simp;omega
    ·by_cases I:n=0
     ·subst I
      refine⟨[],by simp[rowsOf,aU],zA,zA,λd=>?_⟩
      simp[Builtin.firstCells,loadCells,loadCellsFrom]
     ·obtain⟨rfl,_⟩:=y O
      have ai:n*e<=p*e:=i_ e hn
      obtain⟨_,us,G,J,C,S⟩:=aJ.read (P:=P) j (o:=base+k*e) (n:=n*e) O
      exact⟨us,by rw[iP F O];exact G,J,C,λd=>by simpa [Builtin.firstCells]using S d⟩
   ·rename_i m e1 g rw B
    rw[B]at j
    split at h
    ·rename_i hc
     obtain⟨rfl,rfl⟩:=hc
     simp only[fE,Prod.mk.injEq,bn]at h
     obtain⟨R,rfl,rfl,rfl⟩:=h
     refine⟨λi hi=>j.1 _ O,by simp[Builtin.lenOf],λn hn=>?_⟩
     by_cases I:n=0
     ·subst I
      refine⟨[],by simp[rowsOf,aU],zA,zA,λd=>?_⟩
      simp[Builtin.firstCells,loadCells,loadCellsFrom]
     ·obtain⟨rfl,_⟩:=y O
      obtain⟨a,t,L,e3⟩:=ns (m:=m) (f:=g) (n:=n) (k:=k) O
      have W:a.length=k*e1:=by rw[e3];exact nX λi hi=>j.1 i O
      have T:(rowsOf n λi=>g (k+i)).length=n*e1:=nX λi hi=>j.1 _ O
      have X:((rowsOf m g).drop (k*e1)).take (n*e1)=rowsOf n (λi=>g (k+i)):=by
       rw[L,m_,List.drop_append_of_le_length O,Z_ O,D_,r_ O,C_ O]
      obtain⟨_,us,G,J,C,S⟩:=aJ.read (P:=P) j.2 (o:=k*e1) (n:=n*e1) (by rw[L];simp;omega)
      rw[X]at G
      exact⟨us,G,J,C,λd=>by simpa [Builtin.firstCells]using S d⟩
    ·cases h
   ·cases h
  ·cases h
 |own l p e'=>
  simp only[fF]at h
  split at h
  ·rename_i Q
   obtain⟨rfl,F⟩:=Q
   simp only[VR]at u
   have j:=(hr.dF l).un
   split at h
   ·rename_i cs rw B
    rw[B]at j
    simp only[fE,Prod.mk.injEq,bn]at h
    obtain⟨R,rfl,rfl,rfl⟩:=h
    refine⟨λi hi=>?_,?_,λn hn=>?_⟩
    ·have:i*e+e<=p*e:=by
      have:=i_ e (O:i+1<=p)
      rw[P_]at this;exact this
     simp;omega
    ·rcases u with⟨rfl,rfl⟩|⟨_,_,_,_,rfl,_⟩<;>simp[Builtin.lenOf]
    ·rcases u with⟨rfl,rfl⟩|⟨b,N,cc,V,rfl,hl,y⟩
     ·have:n=0:=by omega
      subst this
      exact⟨[],by simp[rowsOf,aU],zA,zA,λd=>by simp[Builtin.firstCells]⟩
     ·rw[V]at j
      have ai:n*e<=p*e:=i_ e hn
      obtain⟨_,us,G,J,C,S⟩:=aJ.read (P:=P) j (o:=0) (n:=n*e) O
      refine⟨us,?_,J,C,λd=>by simpa [Builtin.firstCells]using S d⟩
      have:=iP (cs:=cs) (o:=0) F (n:=n) O
      simp only[b_]at this
      rw[this];exact G
   ·rename_i m e1 g rw B
    rw[B]at j
    split at h
    ·rename_i hc
     subst hc
     simp only[fE,Prod.mk.injEq,bn]at h
     obtain⟨R,rfl,rfl,rfl⟩:=h
     refine⟨λi hi=>j.1 _ O,?_,λn hn=>?_⟩
     ·rcases u with⟨rfl,rfl⟩|⟨_,_,_,_,rfl,_⟩<;>simp[Builtin.lenOf]
     ·rcases u with⟨rfl,rfl⟩|⟨b,N,cc,V,rfl,hl,y⟩
      ·have:n=0:=by omega
       subst this
       exact⟨[],by simp[rowsOf,aU],zA,zA,λd=>by simp[Builtin.firstCells]⟩
      ·rw[V]at j
       obtain⟨a,t,L,e3⟩:=ns (m:=m) (f:=g) (n:=n) (k:=0) O
       have W:a=[]:=by rw[e3];rfl
       subst W
       simp only[D_,b_]at L
       replace L:rowsOf m g=rowsOf n g++t:=L
       have T:(rowsOf n g).length=n*e1:=nX λi hi=>j.1 _ O
       obtain⟨_,us,G,J,C,S⟩:=aJ.read (P:=P) j.2 (o:=0) (n:=n*e1) (by rw[L];simp;omega)
       refine⟨us,?_,J,C,λd=>by simpa [Builtin.firstCells]using S d⟩
       rw[H_,L,r_ O,C_ O]at G
       exact G
    ·cases h
   ·cases h
  ·cases h
 |ab p e1 g=>
  simp only[fF]at h
  split at h
  ·rename_i Q
   obtain⟨rfl,F⟩:=Q
   simp only[fE,Prod.mk.injEq,true_and]at h
   obtain⟨rfl,rfl,rfl⟩:=h
   simp only[VR]at u
   refine⟨λi hi=>?_,?_,λn hn=>?_⟩
   ·rcases u with⟨rfl,_⟩|⟨b,q,cc,a,K,rfl,hl,y⟩
    ·omega
    ·obtain⟨rfl,Y,D⟩:=y O
     rw[(D i hi).2.length_eq];exact(D i hi).1
   ·rcases u with⟨rfl,rfl⟩|⟨_,_,_,_,_,rfl,_⟩<;>simp[Builtin.lenOf]
   ·by_cases I:n=0
    ·subst I
     refine⟨[],by simp[rowsOf,aU],zA,zA,λd=>?_⟩
     rcases u with⟨rfl,rfl⟩|⟨_,_,_,_,_,rfl,_⟩<;>simp[Builtin.firstCells,loadCells,loadCellsFrom]
    ·rcases u with⟨rfl,_⟩|⟨b,q,cc,a,K,rfl,hl,y⟩
     ·omega
     obtain⟨rfl,Y,D⟩:=y O
     have U:=Y.part (λi hi=>(D i hi).1) (k:=0) (m:=n) O
     simp only[n_,Q_,b_]at U
     have Z:∀i,i<n->(g i).length=e:=λi hi=>by rw[(D i O).2.length_eq];exact(D i O).1
     have ad:=aU.flat (n:=n) λi hi=>aU.ext (Ext.qU ρ) _ _ (D i O).2
     have T:(rowsOf n g).length=n*e:=nX Z
     have ag:((g_ n).flatMap K).length=n*e:=by rw[<-ad.length_eq];exact T
     refine⟨(g_ n).flatMap K,ad,ag,U.1,λd=>?_⟩
     have key:=jF (P:=P) (w:={w with drawn:=d}) (us:=(g_ n).flatMap K) (r:=b) (o:=q) λi v u=>qR.cell hr U i v u
     rw[ag]at key
     simpa [Builtin.firstCells]using key
  ·cases h
 |aw=>
  simp only[fF]at h
  split at h
  ·simp only[fE,Prod.mk.injEq,true_and]at h
   obtain⟨rfl,rfl,rfl⟩:=h
   simp only[VR]at u
   subst u
   refine⟨λi hi=>O,by simp[Builtin.lenOf],λn hn=>⟨[],?_,?_,zA,λd=>?_⟩⟩
   ·have:n=0:=by omega
    subst this;simp[rowsOf,aU]
   ·have:n=0:=by omega
    simp[this]
   ·simp[Builtin.firstCells]
  ·cases h
 |str s=>
  simp only[fF]at h
  split at h
  ·rename_i Q
   subst Q
   simp only[fE,Prod.mk.injEq,true_and]at h
   obtain⟨rfl,rfl,rfl⟩:=h
   simp only[VR]at u
   subst u
   have E:∀i,i<s.length->((λi=>[N_ .u8 (s.getD i 0).toNat]) i).length=1:=λi _=>rfl
   refine⟨E,by simp[Builtin.lenOf,ByteArray.size],λn hn=>⟨(s.take n).map λb=>X_ .u8 b.toNat,?_,by simp;omega,λv u=>by(simp only[List.mem_map]at u;obtain⟨_,_,rfl⟩:=u;rfl),λd=>?_⟩⟩
   ·refine aU.vj (by rw[nX (e:=1) (λi hi=>E i O)];simp;omega) λi a v G J=>?_
    have hi:i<n:=by
     have:=(List.getElem?_eq_some_iff.1 J).1
     simp at this;omega
    rw[qm (λi hi=>E i O) hi A]at G
    cases G
    simp only[O_,W_ hi,mo (O:i<s.length),R_,fE]at J
    subst J
    simp[VR,U_,mo (O:i<s.length)]
   ·simp only[Builtin.firstCells,Sem.run_pure]
    congr 1
    apply e_
    simp[List.extract_eq_take_drop]
  ·cases h
 |_=>simp[fF]at h
section
theorem Rel.Vs{c ρ H w w'}(h:Rel c ρ H w){l r N}(b)(o:(H.get l).rw=true)(v:ρ l=M (r,N))(ht:fD r w w')
  (K:bp (ρ.put H.n (r,N)) w' (M (r,N)) b):Ext ρ (ρ.put H.n (r,N))/\Rel c (ρ.put H.n (r,N)) ((H.set l .dead).new b) w':=by
 have hn:ρ H.n=c_:=h.top _ (dw _)
 have hx:=Env.nk (r,N) hn
 have L:l≠H.n:=λe=>Y
 have m:∀i,i≠H.n->i≠l->((H.set l .dead).new b).get i=H.get i:=λi j s=>by
  rw[show H.n=(H.set l .dead).n from rfl]at j
  rw[Y_ _ _ j,AH.pr _ _ (λe=>s e.symm)]
 have F:((H.set l .dead).new b).get H.n=b:=AH.nj (H.set l .dead) b
 have u:((H.set l .dead).new b).get l= .dead:=by
  rw[Y_ _ _ zI]
  exact q? H .dead l
 have old:∀i,i≠H.n->i≠l->H.get i≠ .dead->∀y a,ρ i=M (y,a)->y≠r:=λi j s P y a e G=>by
  subst G
  exact P (h.sep l i y N a (λe=>s e.symm) o v e)
 refine⟨hx,⟨λi=>?_,λi B q a Q C d j s=>?_,λi q a d j=>?_,λk J=>?_,?_,ht.os.trans h.os,ht.output.trans h.output,ht.tape.trans h.tape,λi hi=>?_,λg R=>?_,λi q a D j=>?_,λi hi=>?_,λi hi=>?_,λk vs e=>?_,λi q a d j=>?_,h.xw,h.qZ⟩⟩
 ·by_cases hi:i=H.n
  ·subst hi;rw[F,Env.cP];exact K
  ·rw[Env.ec _ _ hi]
   by_cases f:i=l
   ·subst f;rw[u];trivial
   ·rw[m i hi f]
    by_cases D:H.get i= .dead
    ·rw[D];trivial
    ·exact bp.world (λy a e=>ht.other y Y) ((h.dF i).ext hx)
 ·by_cases hi:i=H.n
  ·subst hi
   rw[Env.cP]at j;cases j
   have t:B≠H.n:=λe=>C e.symm
   rw[Env.ec _ _ t]at s
   grind
  ·rw[Env.ec _ _ hi]at j
   by_cases f:i=l
   ·subst f;rw[u]at d;cases d
   ·rw[m i hi f]at d
    have D:H.get i≠ .dead:=λe=>by rw[e]at d;cases d
    by_cases t:B=H.n
    ·subst t
     rw[Env.cP]at s;grind
    ·rw[Env.ec _ _ t]at s
     by_cases E:B=l
     grind
     ·rw[m B t E]
      exact h.sep i B q a Q C d j s
 ·by_cases hi:i=H.n
  ·subst hi
   rw[Env.cP]at j;cases j
   exact h.gL l r N o v
  ·rw[Env.ec _ _ hi]at j
   by_cases f:i=l
   ·subst f;rw[u]at d;cases d
   ·rw[m i hi f]at d
    exact h.gL i q a d j
 ·obtain⟨j,s⟩:=h.gH k J
  refine⟨j,?_⟩
  rw[<-s]
  refine ht.other k λe=>?_
  subst e
  exact J.elim (h.gL l k N o v) (h.hid l k N (λe=>by rw[e]at o;cases o) v)
 ·rw[ht.size];exact h.size
 ·have I:H.n+1<=i:=hi
  rw[Env.ec _ _ O]
  exact h.top i O
 ·obtain⟨a,S⟩:=h.fp g R
  exact⟨a,hx _ _ S⟩
 ·by_cases hi:i=H.n
  ·subst hi
   rw[Env.cP]at j;cases j
   exact h.hid l r N (λe=>by rw[e]at o;cases o) v
  ·rw[Env.ec _ _ hi]at j
   by_cases f:i=l
   grind
   ·rw[m i hi f]at D
    exact h.hid i q a D j
 ·obtain⟨j,s⟩:=h.env i hi
  exact⟨by simp;omega,by rw[Env.ec _ _ O];exact s⟩
 ·have I:H.n+1<=i:=hi
  have:=h.oZ o
  rw[m i O O]
  exact h.low i O
 ·obtain⟨el,fr,T⟩:=h.qY k vs e
  refine⟨el,fr,(ht.other k λG=>?_).trans T⟩
  subst G
  have:=h.pV l k N o v
  rw[Env.S9,this]at e;cases e
 ·by_cases hi:i=H.n
  ·subst hi
   rw[Env.cP]at j;cases j
   exact h.pV l r N o v
  ·rw[Env.ec _ _ hi]at j
   by_cases f:i=l
   ·subst f;rw[u]at d;cases d
   ·rw[m i hi f]at d
    exact h.pV i q a d j
theorem PO{c ρ w}{H:AH}{l b}(hl:l<H.n)(h:Rel c ρ (H.new b) w):Rel c ρ ((H.set l .dead).new b) w:=by
 refine(h.kill l).congr A λi=>?_
 rw[AH.kI,AH.bH,AH.bH,AH.kI]
 by_cases h1:i=H.n
 ·have :¬ i=l:=by omega
  simp_all
 simp_all
section
variable {R:Type} {X:RI R} {sem:R->Prop} (hX:X.Ok sem) {I:ba} {P:Program} (hI:I.Ok P)
def jg(bo:Option (List UInt8))(n1 b sz:Nat)(f1 c:Nat->List AV)(d:Bool)(a:Access):eT :=
 match bo with|some e=> .str e a|none=>bif d then .cells (rowsOf n1 f1++rowsOf b c) a else .rows (n1+b) sz (λi=>bif d_ i n1 then f1 i else c (i-n1)) a
def eT.acc:eT->Access
 | .cells _ a=>a
 | .rows _ _ _ a=>a
 | .str _ a=>a
 | .dead=> .ro
 | .map es=>match dL es with|true=> .ro|false=> .wr
 |_=> .wr
theorem eT.Tf(b:eT):b.un.acc=b.acc:=by cases b<;>rfl
theorem eT.Vt(b:eT):b.acc.w=b.rw:=by
 cases b with
 |map es=>
  show(match dL es with|true=>Access.ro|false=>Access.wr).w=!dL es
  cases dL es<;>rfl
 |_=>rfl
def Access.meet(e:TypeId):Access->Access
 | .ty a=>bif a_ a e then .ty e else .wr
 |_=> .wr
theorem Access.uK{e}{a:Access}:a.meet e≠ .ro:=by
 unfold Access.meet
 grind
theorem Access.uL{e}{a:Access}{m}:a.meet e≠ .ex m:=by
 unfold Access.meet
 grind
theorem Access.uM{e b}{a:Access}(h:a.meet e= .ty b):e=b/\a= .ty e:=by
 unfold Access.meet at h
 split at h
 ·rename_i c
  cases d:a_ c e with
  |true=>
   simp_all
  |false=>rw[d]at h;cases h
 ·cases h
theorem pU.meet{a el e fr N}(h:pU a el fr N)(c:a.w=true):pU (a.meet e) el fr N :=
 ⟨λ_=>h.w c,λd b=>by
  obtain⟨rfl,rfl⟩:=Access.uM b
  exact h.ty _ A,λ_ b=>absurd b Access.uL⟩
theorem pU.fresh{a e N}(h:∀b,a= .ty b->e=b)(d:∀m,a≠ .ex m):pU a e (0,0) N:=⟨O,λb c=>h b c,ZD⟩
theorem xL(n1 a)(f1 f2):rowsOf (n1+a) (λi=>bif d_ i n1 then f1 i else f2 (i-n1))=rowsOf n1 f1++rowsOf a f2:=by
 rw[jH]
 congr 1
 ·exact gY λi hi=>by
   have:d_ i n1=true:=by rw[h_];exact hi
   rw[this];rfl
 ·exact gY λi hi=>by
   have:d_ (n1+i) n1=false:=by rw[o_];intro e;rw[h_]at e;omega
   grind
theorem yo{ρ w bo r N n1 b sz f1 c g a}(k:∀i,i<n1->(f1 i).length=sz)(l:∀i,i<b->(c i).length=sz)
  (h:aJ ρ w (M (r,N)) (rowsOf n1 f1++rowsOf b c) a) (j:∀d,bo=M d->rowsOf n1 f1++rowsOf b c=byteCells d):bp ρ w (M (r,N)) (jg bo n1 b sz f1 c g a):=by
 unfold jg
 cases bo with
 |some d=>show aJ _ _ _ _ _;grind
 |none=>
 cases g with
 |true=>exact h
 |false=>
  refine⟨λi hi=>?_,by rw[xL];exact h⟩
  by_cases f:i<n1
  ·have:d_ i n1=true:=by rw[h_];exact f
   grind
  ·have:d_ i n1=false:=by rw[o_];intro e;rw[h_]at e;omega
   grind
theorem tI{ρ w bo sz f1 d e a}(c:∀b,bo=M b->rowsOf 0 f1++rowsOf 0 d=byteCells b):bp ρ w c_ (jg bo 0 0 sz f1 d e a):=by
 unfold jg
 cases bo with
 |some b=>exact .inl ⟨(c b A).symm,rfl⟩
 |none=>
  cases e
  ·exact⟨O,.inl ⟨by simp[rowsOf],rfl⟩⟩
  ·exact .inl ⟨by simp[rowsOf],rfl⟩
def lg:AV->Option Nat
 | .own l _ _=>M l
 | .slice l 0 0 _ _ _=>M l
 |_=>c_
def Kx:TypeDesc->Bool
 | .slice _| .string=>true
 |_=>false
def pf(X:RI R)(e:TypeId)(s:AV)(n sz:Nat)(dF:Access->eT)(H:AH)(K:AV->AH->R):R :=
 match lg s with
 |some l=>match(H.get l).rw with
  |true=>K (.own H.n n sz) ((H.set l .dead).new (dF ((H.get l).acc.meet e)))
  |false=>X.fail
 |none=>X.fail
def R9(H:AH):AV->Option (Bool×List UInt8)
 | .aw=>M (true,[])
 | .own l n 1=>match H.get l with
  | .str b _=>M (j_ (n=b.length),b)
  |_=>c_
 | .slice l 0 0 n _ 1=>match H.get l with
  | .str b _=>M (j_ (n=b.length),b)
  |_=>c_
 |_=>c_
def rf(H:AH):AV->Option (Bool×List UInt8)
 | .aw=>M (true,[])
 | .str t=>M (true,t)
 | .own l n 1=>match H.get l with
  | .str b _=>M (j_ (n=b.length),b)
  | .cells cs _=>M ((cs.take n).all t?,(cs.take n).map j?)
  |_=>c_
 | .slice l 0 k n _ 1=>match H.get l with
  | .str b _=>M (true,(b.drop k).take n)
  | .cells cs _=>M (((cs.drop k).take n).all t?,((cs.drop k).take n).map j?)
  |_=>c_
 |_=>c_
def dR(I:ba)(e:TypeId)(sz:Nat)(H:AH)(s x:AV):Bool×Option (List UInt8):=
 match sz,I.dI e with
 |1,M (.int .u8)=>match R9 H s,rf H x with
  |some (a,b),M (c,d)=>(a&&c,M (qk b d))
  |_,_=>(true,c_)
 |_,_=>(true,c_)
theorem rh{cs}(h:cs.all t? =true):byteCells (cs.map j?)=cs:=by
 induction cs with
 |nil=>rfl
 |cons a cs c=>
  simp only[r?,bf]at h
  have b:=c h.2
  simp only[byteCells,f_,a?]at b⊢
  refine congr (congrArg _ ?_) b
  cases a with
  |int k n=>
   cases k<;>simp only[t?,kH,bf,bn,false_and]at h
   simp only[j?,AV.intOf]
   congr 1
   have:n.toNat<256:=O
   simp[UInt8.toNat_ofNat',Nat.mod_eq_of_lt this]
   omega
  |_=>simp[t?]at h
theorem ny{H:AH}{x:AV}{n:Nat}{f:Nat->List AV}{c:Bool}{b:List UInt8}(h:fF H 1 x=M (true,n,f,c))(k:rf H x=M (true,b)):rowsOf n f=byteCells b:=by
 have cut:∀(cs:List AV)(o m:Nat),o+m<=cs.length->rowsOf m (λi=>(cs.drop (o+i*1)).take 1)=(cs.drop o).take m:=λcs o m p=>by
  have:=iP (cs:=cs) (o:=o) (e:=1) (n:=m) O O
  grind
 unfold rf at k
 split at k
 ·cases k
  simp only[fF]at h
  rw[if_pos O]at h
  cases h;rfl
 ·cases k
  simp only[fF,if_true]at h
  simp only[fE,Prod.mk.injEq,true_and]at h
  obtain⟨rfl,rfl,rfl⟩:=h
  exact kJ _
 ·rename_i l m
  split at k
  ·rename_i g a d
   simp only[fE,Prod.mk.injEq,bn]at k
   obtain⟨rfl,rfl⟩:=k
   simp only[fF,d,eT.un]at h
   simp only[true_and,J_,if_true,fE,Prod.mk.injEq,bn]at h
   obtain⟨_,rfl,rfl,rfl⟩:=h
   exact kJ _
  ·rename_i cs a d
   simp only[fE,Prod.mk.injEq]at k
   obtain⟨k1,rfl⟩:=k
   simp only[fF,d,eT.un]at h
   simp only[true_and,J_,if_true,fE,Prod.mk.injEq,bn]at h
   obtain⟨hl,rfl,rfl,rfl⟩:=h
   have:=cut cs 0 m O
   simp only[b_,H_]at this
   rw[this,rh k1]
  ·cases k
 ·rename_i l kk m cap
  split at k
  ·rename_i g a d
   simp only[fE,Prod.mk.injEq,true_and]at k
   subst k
   simp only[fF,d,eT.un]at h
   simp only[and_self,J_,if_true,fE,Prod.mk.injEq,bn]at h
   obtain⟨hl,rfl,rfl,rfl⟩:=h
   have:∀n,kk+n<=g.length->rowsOf n (λi=>gx g (kk+i))=byteCells ((g.drop kk).take n):=by
    intro n
    induction n with
    |zero=>intro _;rfl
    |succ n j=>
     intro hn
     rw[dl,j O,List.take_add_one,M_,mo O]
     show _=List.map _ (_++_)
     rw[t_]
     refine congr A ?_
     simp[gx,U_,mo (O:kk+n<g.length)]
   exact this _ hl
  ·rename_i cs a d
   simp only[fE,Prod.mk.injEq]at k
   obtain⟨k1,rfl⟩:=k
   simp only[fF,d,eT.un]at h
   simp only[true_and,J_,if_true,fE,Prod.mk.injEq,bn]at h
   obtain⟨hl,rfl,rfl,rfl⟩:=h
   have:=cut cs kk m O
   simp only[b_,Nat.mul_one]at this⊢
   rw[this,rh k1]
  ·cases k
 ·cases k
theorem D0{H x n f c b}(h:fF H 1 x=M (true,n,f,c))(k:R9 H x=M (true,b)):rowsOf n f=byteCells b:=by
 unfold R9 at k
 split at k
 ·exact ny h k
 ·split at k
  ·rename_i d
   exact ny h (by simp only[rf,d];exact k)
  ·cases k
 ·split at k
  ·rename_i m cap _ e a d
   refine ny h ?_
   simp only[fE,Prod.mk.injEq,bn]at k
   obtain⟨rfl,rfl⟩:=k
   simp only[rf,d,H_,List.take_length]
  ·cases k
 ·cases k
theorem byteCells_append(a b):byteCells (a++b)=byteCells a++byteCells b:=by simp[byteCells]
theorem Sa{I e sz H s x n1 c f1 d f g}(i:fF H sz s=M (true,n1,f1,f))(j:fF H sz x=M (true,c,d,g))(h:(dR I e sz H s x).1=true):
  ∀b,(dR I e sz H s x).2=M b->rowsOf n1 f1++rowsOf c d=byteCells b:=by
 intro b a
 unfold dR at h a
 split at h
 ·rename_i k
  simp only[k]at a
  split at h
  ·rename_i n l o m k1 k2
   simp only[k1,k2,fE]at a
   simp only[bf]at h
   obtain⟨rfl,rfl⟩:=h
   rw[<-a]
   show _=byteCells (l++m)
   rw[byteCells_append,D0 i k1,ny j k2]
  grind
 grind
def Sb(X:RI R)(I:ba)(h i:TypeId)(s x:AV)(H:AH)(K:AV->AH->R):R :=
 match I.dI h,I.dI i with
 |some (.slice e),M j=>
  match I.size e,I.bytes e,(I.zero e).bind v?,(Kx j)with
  |some sz,M c,M zs,true=>
   if zs.length=sz then
   match fF H sz s,fF H sz x with
   |some (d,n1,f1,c1),M (f,a,f2,c2)=>
    X.bq (d&&f&&j_ (0<c)&&j_ ((n1+a)*c<=140737488355328)&&(dR I e sz H s x).1)
     (match s with
      | .aw=>K (.own H.n a sz) (H.new (jg (dR I e sz H s x).2 n1 a sz f1 f2 (c1&&c2) (.ty e)))
      | .slice l b k len (M g) es=>X.cond (j_ (a=0)) (λ_=>K (.slice l b k len (M g) es) H)
        (λ_=>X.cond (j_ (g=len)) (λ_=>K (.own H.n (n1+a) sz) (H.new (jg (dR I e sz H s x).2 n1 a sz f1 f2 (c1&&c2) (.ty e)))) (λ_=>pf X e (.slice l b k len (M g) es) (n1+a) sz (jg (dR I e sz H s x).2 n1 a sz f1 f2 (c1&&c2)) H K))
      | .slice l b k len c_ es=>X.cond (j_ (a=0)) (λ_=>K (.slice l b k len c_ es) H)
        (λ_=>pf X e (.slice l b k len c_ es) (n1+a) sz (jg (dR I e sz H s x).2 n1 a sz f1 f2 (c1&&c2)) H K)
      |s=>pf X e s (n1+a) sz (jg (dR I e sz H s x).2 n1 a sz f1 f2 (c1&&c2)) H K)
   |_,_=>X.fail
   else X.fail
  |_,_,_,_=>X.fail
 |_,_=>X.fail
include hI in
theorem ol{l p e:TypeId}{n:TypeDesc}{sz h:Nat}{zs:List AV}(u:I.dI l=M (.slice e))(R:I.dI p=M n)(S:I.size e=M sz)(T:I.bytes e=M h)(K:(I.zero e).bind v? =M zs)(y:zs.length=sz)
  (U:(Kx n)=true) (Y:0<h) {n1 f:Nat} (V:(n1+f)*h<=140737488355328) {c:Option Addr} {cap:Nat} {o:Value} {us vs:List Value} (w:World)
  (e1:(Builtin.lenOf o).run P w= .ok f w) (L:∀d,(Builtin.firstCells sz n1 (.slice c n1 cap)).run P {w with drawn:=d}= .ok us.toArray {w with drawn:=d}) (B:∀d,(Builtin.firstCells sz f o).run P {w with drawn:=d}= .ok vs.toArray {w with drawn:=d}) (ty:TypeId):
  (cap<n1+f->∃(C:Nat)(rest:List Value),n1+f<=C/\rest.length=(C-(n1+f))*sz/\(Builtin.append_ #[l,p] ty #[.slice c n1 cap,o]).run P w= .ok (.slice (M ⟨w.heap.size,0,c_⟩) (n1+f) C) {w with drawn:=w.drawn+1,heap:=w.heap.push (.cells (us++vs++rest).toArray e)})/\
  (n1+f<=cap->(Builtin.append_ #[l,p] ty #[.slice c n1 cap,o]).run P w=
   ((match c with|some a=>storeCells (a.add (n1*sz)) vs|none=>pure ():Sem Unit).run P w).andThen λ_ w'=> .ok (.slice c (n1+f) cap) w'):=by
 simp only[Option.bind_eq_some_iff]at K
 obtain⟨b,D,E⟩:=K
 obtain⟨i,F,g1,g2,g3⟩:=hI.zero e b D
 obtain⟨i',g4,v⟩:=hI.size e sz S
 obtain⟨W,N,X⟩:=hI.bytes e h T
 rw[g1]at g4 N
 cases g4
 cases N
 have j:=VR.cells (jZ ⟨λ_=>c_,λ_=>c_⟩ F b g3) E
 have G:F.cells.size=sz:=by rw[<-d?,<-j.length_eq,y]
 have m:(Builtin.firstCells sz f o).run P w= .ok vs.toArray w:=B w.drawn
 have x:P.underlying p=M n:=hI.dI p _ R
 have q:(∃H,n= .slice H)∨n= .string:=by cases n<;>first|exact .inl ⟨_,rfl⟩|exact .inr A|(simp[Kx]at U)
 constructor
 ·intro J
  have k :¬ (281474976710656<Builtin.nextslicecap (n1+f) cap*i.bytes):=by
   have:=growslice_fits (need:=n1+f) (old:=cap) (bytes:=i.bytes) J (by rw[X];exact V)
   omega
  refine⟨grownCap w (n1+f) cap e,(Builtin.zeroCells F.cells (grownCap w (n1+f) cap e-(n1+f))).toList,grownCap_ge _ _ _ _,by simp[Builtin.zeroCells,G],?_⟩
  have g :¬ (n1+f<=cap):=O
  have r :¬ i.bytes=0:=O
  have Q:∀Z:Array Value,us.toArray++(vs.toArray++Z)=(us++(vs++Z.toList)).toArray:=λZ=>by apply e_;simp
  have s:(Builtin.firstCells sz n1 (.slice c n1 cap)).run P w.drew= .ok us.toArray w.drew:=L (w.drawn+1)
  have t:(Builtin.firstCells sz f o).run P w.drew= .ok vs.toArray w.drew:=B (w.drawn+1)
  clear L B m
  rcases q with⟨H,rfl⟩|rfl
  ·simp[Builtin.append_,run_underlying (hI.dI l _ u),run_underlying x,sizeOf,typeInfo,zeroValue,g1,g2,v,e1,g,r,k,Question.forced,s,t,newRow,grownCap]
   rw[Q]
   rfl
  ·simp[Builtin.append_,run_underlying (hI.dI l _ u),run_underlying x,sizeOf,typeInfo,zeroValue,g1,g2,v,e1,g,r,k,Question.forced,s,t,newRow,grownCap]
   rw[Q]
   rfl
 ·intro g
  rcases q with⟨H,rfl⟩|rfl
  ·cases c<;>simp[Builtin.append_,run_underlying (hI.dI l _ u),run_underlying x,sizeOf,typeInfo,g1,v,e1,g,m]
  ·cases c<;>simp[Builtin.append_,run_underlying (hI.dI l _ u),run_underlying x,sizeOf,typeInfo,g1,v,e1,g,m]
theorem aJ.pre{ρ:Env}{w:World}{r N:Nat}{a b:List AV}{rw:Access}(h:aJ ρ w (M (r,N)) (a++b) rw):aJ ρ w (M (r,N)) a rw:=by
 rcases h with⟨_,d⟩|⟨f,i,vs,rest,el,fr,e1,j,o,c,l,q,m⟩
 ·cases d
 ·have hl:=c.length_eq
  simp only[y_]at hl
  refine .inr ⟨f,i,vs.take a.length,vs.drop a.length++rest,el,fr,e1,?_,?_,?_,l,λv s=>Y,λe=>by rw[<-m_,G_];exact m e⟩
  ·rw[<-m_,G_];exact j
  grind
  ·have:=c.take a.length
   grind
theorem HU{H e l x len f B}(h:fF H e x=M (true,len,f,B))(p:lg x=M l){ρ w r N}(d:bp ρ w (M (r,N)) (H.get l)):
  aJ ρ w (M (r,N)) (rowsOf len f) (H.get l).acc:=by
 rw[<-eT.Tf]
 replace d:=d.un
 have key:∀(cs:List AV)(rw:Access),0<e->len*e<=cs.length->aJ ρ w (M (r,N)) cs rw->aJ ρ w (M (r,N)) (rowsOf len λi=>(cs.drop (i*e)).take e) rw:=by
  intro cs rw q hl s
  have:=iP (cs:=cs) (o:=0) q (n:=len) O
  simp only[b_]at this
  rw[this,H_]
  rw[<-G_ (len*e) cs]at s
  exact s.pre
 have j:∀(m:Nat)(g:Nat->List AV)(rw:Access),len<=m->aJ ρ w (M (r,N)) (rowsOf m g) rw->aJ ρ w (M (r,N)) (rowsOf len g) rw:=by
  intro m g rw hl s
  obtain⟨a,t,y,C⟩:=ns (m:=m) (f:=g) (n:=len) (k:=0) O
  have v:a=[]:=by rw[C];rfl
  subst v
  simp only[D_,b_]at y
  rw[y]at s
  exact s.pre
 unfold lg at p
 split at p
 ·rename_i D u E
  cases p
  simp only[fF]at h
  split at h
  ·rename_i q
   split at h
   ·rename_i cs rw b
    rw[b]at d⊢
    simp only[fE,Prod.mk.injEq,bn]at h
    obtain⟨c,rfl,rfl,rfl⟩:=h
    exact key cs rw q.2 c d
   ·rename_i m e1 g rw b
    rw[b]at d⊢
    split at h
    ·simp only[fE,Prod.mk.injEq,bn]at h
     obtain⟨c,rfl,rfl,rfl⟩:=h
     exact j m g rw c d.2
    ·cases h
   ·cases h
  ·cases h
 ·rename_i D u F E
  cases p
  simp only[fF]at h
  split at h
  ·rename_i q
   split at h
   ·rename_i cs rw b
    rw[b]at d⊢
    simp only[fE,Prod.mk.injEq,bn,n_,b_]at h
    obtain⟨c,rfl,rfl,rfl⟩:=h
    exact key cs rw q.2 c d
   ·rename_i m e1 g rw b
    rw[b]at d⊢
    split at h
    ·simp only[fE,Prod.mk.injEq,bn,b_]at h
     obtain⟨c,rfl,rfl,rfl⟩:=h
     exact j m g rw c d.2
    ·cases h
   ·cases h
  ·cases h
 ·cases p
theorem Rel.Ge{c ρ H w}(h:Rel c ρ H w)(b)(s:bp ρ w c_ b):Rel c ρ (H.new b) w:=by
 have hn:ρ H.n= .none:=h.top _ (dw _)
 refine⟨λl=>?_,λl o r a t i d f j=>?_,λl r a d f=>?_,h.gH,h.size,h.os,h.output,h.tape,λl hl=>h.top l (by simp at hl;omega),h.fp,λl r a q f=>?_,λl hl=>?_,λl hl=>by rw[Y_ _ _ (by simp at hl;omega)];exact h.low l (by simp at hl;omega),h.qY,λl r a d f=>?_,h.xw,h.qZ⟩
 ·by_cases hl:l=H.n
  ·subst hl;rw[AH.nj,hn];exact s
  ·rw[Y_ _ _ hl];exact h.dF l
 ·have hl:l≠H.n:=λe=>by grind
  have m:o≠H.n:=λe=>Y
  rw[Y_ _ _ hl]at d
  rw[Y_ _ _ m]
  exact h.sep l o r a t i d f j
 ·have hl:l≠H.n:=λe=>by grind
  rw[Y_ _ _ hl]at d
  exact h.gL l r a d f
 ·have hl:l≠H.n:=λe=>by grind
  rw[Y_ _ _ hl]at q
  exact h.hid l r a q f
 ·obtain⟨f,j⟩:=h.env l hl
  exact⟨by simp;omega,j⟩
 ·have hl:l≠H.n:=λe=>by grind
  rw[Y_ _ _ hl]at d
  exact h.pV l r a d f
theorem Rel.Pn{c ρ H w}(h:Rel c ρ H w){l}(b)(hl:ρ l=c_)(s:bp ρ w c_ b)(t:l<H.n):Rel c ρ (H.set l b) w:=by
 have d:∀i,i≠l->(H.set l b).get i=H.get i:=λi e=>AH.pr _ _ (λu=>e u.symm)
 refine⟨λi=>?_,λi m r a v o f j y=>?_,λi r a f j=>?_,h.gH,h.size,h.os,h.output,h.tape,λi hi=>h.top i (by simpa using hi),h.fp,λi r a q j=>?_,λi hi=>by simpa using h.env i hi,λi hi=>by rw[d i (by simp at hi;omega)];exact h.low i (by simpa using hi),h.qY,λi r a f j=>?_,h.xw,h.qZ⟩
 ·by_cases e:i=l
  ·subst e
   rw[q?,hl];exact s
  ·rw[d i e];exact h.dF i
 ·have e1:i≠l:=λe=>by grind
  have B:m≠l:=λe=>Y
  rw[d i e1]at f
  rw[d m B]
  exact h.sep i m r a v o f j y
 ·have e1:i≠l:=λe=>by grind
  rw[d i e1]at f
  exact h.gL i r a f j
 ·have e1:i≠l:=λe=>by grind
  rw[d i e1]at q
  exact h.hid i r a q j
 ·have e1:i≠l:=λe=>by grind
  rw[d i e1]at f
  exact h.pV i r a f j
theorem vx(hX:X.Ok sem){e s n sz dF H K}(h:sem (pf X e s n sz dF H K)):
  ∃l,lg s=M l/\(H.get l).rw=true/\sem (K (.own H.n n sz) ((H.set l .dead).new (dF ((H.get l).acc.meet e)))):=by
 unfold pf at h
 split at h
 ·rename_i l hl
  split at h
  grind
  ·exact zR
 ·exact zR
include hX hI in
theorem D1{st xt:TypeId}{s x:AV}{H:AH}{K:AV->AH->R}(h:sem (Sb X I st xt s x H K)):
  ∃a H',sem (K a H')/\∀c ρ w S j ty,VR ρ s S->VR ρ x j->Rel c ρ H w->∃E w' ρ',(Builtin.append_ #[st,xt] ty #[S,j]).run P w= .ok E w'/\Ext ρ ρ'/\Rel c ρ' H' w'/\VR ρ' a E:=by
 unfold Sb at h
 split at h
 ·rename_i e xd a6 a7
  split at h
  ·rename_i sz dr zs a8 bc hz bd
   split at h
   ·rename_i bs
    split at h
    ·rename_i dt n1 f1 c1 dv u f2 c2 f ad
     obtain⟨b6,hK⟩:=hX.bq _ _ h
     simp only[bf,bn]at b6
     obtain⟨⟨⟨⟨rfl,rfl⟩,T⟩,U⟩,cg⟩:=b6
     have ag:=Sa f ad cg
     have F:∀(d:Access),(∀e',d= .ty e'->e=e')->d≠ .ro->(∀m,d≠ .ex m)->∀c ρ w (q:Option Addr) (cap:Nat) j ty,VR ρ s (.slice q n1 cap)->VR ρ x j->Rel c ρ H w->cap<n1+u->
       ∃E w' ρ',(Builtin.append_ #[st,xt] ty #[.slice q n1 cap,j]).run P w= .ok E w'/\Ext ρ ρ'/\Rel c ρ' (H.new (jg (dR I e sz H s x).2 n1 u sz f1 f2 (c1&&c2) d)) w'/\VR ρ' (.own H.n (n1+u) sz) E:=by
      intro d hA ch cm c ρ w q cap j ty i hx g bK
      obtain⟨l1,_,r1⟩:=QL (P:=P) f i g
      obtain⟨l2,g2,r2⟩:=QL (P:=P) ad hx g
      obtain⟨us,u1,u2,bN,u3⟩:=r1 n1 (dw _)
      obtain⟨vs,v1,v2,V,v3⟩:=r2 u (dw _)
      obtain⟨nc,rest,a1,a2,a3⟩:=(ol hI a6 a7 a8 bc hz bs bd T U w g2 u3 v3 ty).1 bK
      have cn:=g.drawn (w.drawn+1)
      have W:=Env.nk (w.heap.size,nc*sz) (g.top _ (dw H.n))
      have hN:(us++vs++rest).length=nc*sz:=by
       simp only[y_,u2,v2,a2]
       rw[<-T_,<-T_]
       congr 1;omega
      obtain⟨bR,b0⟩:=cn.new (.cells (us++vs++rest).toArray e) (nc*sz) (jg (dR I e sz H s x).2 n1 u sz f1 f2 (c1&&c2) d) λw' cr=>
       yo l1 l2 (.inr ⟨_,_,us++vs,rest,e,(0,0),rfl,cr,hN,(aU.ext W _ _ u1).append (aU.ext W _ _ v1),pU.fresh hA cm,λv hv=>(List.mem_append.1 hv).elim (bN v) (V v),λe=>absurd e ch⟩) ag
      exact⟨_,_,_,a3,bR,b0,by simp only[VR];exact .inr ⟨_,_,nc,Env.cP _ _ _,rfl,a1,dw _⟩⟩
     have both:∀l,lg s=M l->(H.get l).rw=true->∀c ρ w (r N cap:Nat) j ty,ρ l=M (r,N)->cap*sz<=N->VR ρ s (.slice (M ⟨r,0,c_⟩) n1 cap)->VR ρ x j->Rel c ρ H w->
       ∃E w' ρ',(Builtin.append_ #[st,xt] ty #[.slice (M ⟨r,0,c_⟩) n1 cap,j]).run P w= .ok E w'/\Ext ρ ρ'/\Rel c ρ' ((H.set l .dead).new (jg (dR I e sz H s x).2 n1 u sz f1 f2 (c1&&c2) ((H.get l).acc.meet e))) w'/\VR ρ' (.own H.n (n1+u) sz) E:=by
      intro l hl B c ρ w r N cap j ty b7 L i hx g
      have hw:(H.get l).acc.w=true:=by rw[eT.Vt];exact B
      by_cases bK:cap<n1+u
      ·obtain⟨E,w',ρ',b1,b2,b3,b4⟩:=F _ (λ_ h=>(Access.uM h).1) Access.uK (λ_=>Access.uL) c ρ w _ cap j ty i hx g bK
       exact⟨E,w',ρ',b1,b2,PO (g.oZ B) b3,b4⟩
      ·obtain⟨l1,_,r1⟩:=QL (P:=P) f i g
       obtain⟨l2,g2,r2⟩:=QL (P:=P) ad hx g
       obtain⟨us,u1,u2,bN,u3⟩:=r1 n1 (dw _)
       obtain⟨vs,v1,v2,V,v3⟩:=r2 u (dw _)
       have a3:=(ol hI a6 a7 a8 bc hz bs bd T U w g2 u3 v3 ty).2 O
       have hb:=g.dF l
       rw[b7]at hb
       have b8:=HU f hl hb
       have dU:=nX l1
       rcases b8 with⟨_,h0⟩|⟨b',N',ws,rest,el,fr,e1,e2,e3,e4,e5,e6,e7⟩
       ·cases h0
       ·cases e1
        have ea:=e4.length_eq
        have C:(n1+u)*sz<=N:=b? (i_ sz O) L
        rw[T_]at C
        obtain⟨w',cv,cx,cz⟩:=jf (P:=P) (o:=n1*sz) vs 0 w (ws++rest) el fr e2 O (by rw[e3];exact e5.w hw) V
        have W:Ext ρ (ρ.put H.n (r,N)):=Env.nk _ (g.top _ (dw _))
        have b5:aJ (ρ.put H.n (r,N)) w' (M (r,N)) (rowsOf n1 f1++rowsOf u f2) ((H.get l).acc.meet e):=by
         refine .inr ⟨r,N,ws++vs,rest.drop (u*sz),el,fr,rfl,?_,?_,(aU.ext W _ _ e4).append (aU.ext W _ _ v1),e5.meet hw,λv hv=>(List.mem_append.1 hv).elim (e6 v) (V v),λe=>absurd e Access.uK⟩
         ·rw[cx]
          congr 2
          simp only[Q_]
          have hq:n1*sz+vs.length-ws.length=u*sz:=O
          rw[r_ O,C_ O,List.drop_append,Z_ (O:ws.length<=n1*sz+vs.length),D_,hq]
         ·simp only[y_,List.length_drop]at e3⊢
          omega
        obtain⟨bR,b0⟩:=g.Vs (jg (dR I e sz H s x).2 n1 u sz f1 f2 (c1&&c2) ((H.get l).acc.meet e)) B b7 cz (yo l1 l2 b5 ag)
        refine⟨_,w',_,?_,bR,b0,by simp only[VR];exact .inr ⟨r,N,cap,Env.cP _ _ _,rfl,O,L⟩⟩
        rw[a3]
        simp only[addr_add,b_,cv,Result.andThen_ok]
     have J:∀c ρ w v,VR ρ s v->Rel c ρ H w->(Builtin.lenOf v).run P w= .ok n1 w:=λc ρ w v hv g=>(QL (P:=P) f hv g).2.1
     have same:u=0->∀c ρ w (q:Option Addr) (cap:Nat) j ty,n1<=cap->VR ρ s (.slice q n1 cap)->VR ρ x j->Rel c ρ H w->(Builtin.append_ #[st,xt] ty #[.slice q n1 cap,j]).run P w= .ok (.slice q n1 cap) w:=by
      intro h0 c ρ w q cap j ty C i hx g
      subst h0
      obtain⟨l1,_,r1⟩:=QL (P:=P) f i g
      obtain⟨l2,g2,r2⟩:=QL (P:=P) ad hx g
      obtain⟨us,u1,u2,bN,u3⟩:=r1 n1 (dw _)
      obtain⟨vs,v1,v2,V,v3⟩:=r2 0 (dw _)
      have:vs=[]:=by
       cases vs with
       |nil=>rfl
       |cons v vs=>simp at v2
      subst this
      have a3:=(ol hI a6 a7 a8 bc hz bs bd T U w g2 u3 v3 ty).2 O
      rw[a3]
      cases q<;>simp[storeCells]
     have p:∀{l b k len:Nat}{cap:Option Nat}{e:Nat},s= .slice l b k len cap e->len=n1:=by
      intro l b k len cap e i
      rw[i]at f
      simp only[fF]at f
      split at f
      ·split at f
       ·simp only[fE,Prod.mk.injEq]at f;exact f.2.1
       ·split at f
        ·simp only[fE,Prod.mk.injEq]at f;exact f.2.1
        ·cases f
       ·cases f
      ·cases f
     have ai:∀{l b k len:Nat}{cap:Option Nat}{e:Nat},s= .slice l b k len cap e->e=sz:=by
      intro l b k len cap e i
      rw[i]at f
      simp only[fF]at f
      split at f
      ·rename_i he;exact he.1.symm
      ·cases f
     have G:∀{l b k len:Nat}{cap:Option Nat}{es:Nat},s= .slice l b k len cap es->0<u->sem (pf X e s (n1+u) sz (jg (dR I e sz H s x).2 n1 u sz f1 f2 (c1&&c2)) H K)->
       ∃a H',sem (K a H')/\∀c ρ w S j ty,VR ρ s S->VR ρ x j->Rel c ρ H w->∃E w' ρ',(Builtin.append_ #[st,xt] ty #[S,j]).run P w= .ok E w'/\Ext ρ ρ'/\Rel c ρ' H' w'/\VR ρ' a E:=by
      intro l b k len cap es i dn c6
      obtain⟨l',y,B,hk⟩:=vx hX c6
      refine⟨_,_,hk,λc ρ w S j ty ak hx g=>?_⟩
      have b9:=p i
      have he:=ai i
      have Y:=ak
      rw[i]at Y y
      unfold lg at y
      split at y
      ·rename_i hq;cases hq
      ·rename_i l2 Z cd e2 hq
       cases hq
       cases y
       simp only[VR]at Y
       obtain⟨b,N,cc,a,hb,rfl,C,Q,_⟩:=Y
       subst b9 he
       by_cases dd:0<cc
       ·obtain⟨rfl,hN⟩:=Q dd
        simp only[n_,b_,Q_]at hN ak⊢
        exact both _ (by rw[i];rfl) B c ρ w b N cc j ty hb hN ak hx g
       ·obtain⟨E,w',ρ',b1,b2,b3,b4⟩:=F _ (λ_ h=>(Access.uM h).1) Access.uK (λ_=>Access.uL) c ρ w _ cc j ty ak hx g O
        exact⟨E,w',ρ',b1,b2,PO (g.oZ B) b3,b4⟩
      ·cases y
     split at hK
     ·
      refine⟨_,_,hK,λc ρ w S j ty i hx g=>?_⟩
      have t:=i
      simp only[VR]at t
      subst t
      have h0:n1=0:=by
       have:=J c ρ w _ i g
       simp[Builtin.lenOf]at this;exact this.symm
      subst h0
      by_cases h2:u=0
      ·subst h2
       refine⟨_,w,ρ,same A c ρ w c_ 0 j ty (dw _) i hx g,Ext.refl _,g.Ge _ (tI ag),by simp[VR]⟩
      ·have:=F (.ty e) (λ_ h=>by cases h;rfl) (λh=>zE) (λ_ h=>zE) c ρ w c_ 0 j ty i hx g O
       simpa using this
     ·rename_i l b k len cp es
      have D:=hX.cond _ _ _ hK
      by_cases h2:u=0
      ·rw[bW h2,if_pos A]at D
       refine⟨_,_,D,λc ρ w S j ty i hx g=>?_⟩
       have t:=i
       simp only[VR]at t
       obtain⟨b',N,cc,a,hb,rfl,C,Q,_⟩:=t
       have:=p A
       subst this
       exact⟨_,w,ρ,same h2 c ρ w _ cc j ty C i hx g,Ext.refl _,g,i⟩
      ·rw[nZ h2,if_neg zA]at D
       have ap:=hX.cond _ _ _ D
       by_cases cf:cp=len
       ·rw[bW cf,if_pos A]at ap
        refine⟨_,_,ap,λc ρ w S j ty i hx g=>?_⟩
        have t:=i
        simp only[VR]at t
        obtain⟨b',N,cc,a,hb,rfl,C,Q,L⟩:=t
        have:=p A
        subst this
        have:=L _ A
        exact F (.ty e) (λ_ h=>by cases h;rfl) (λh=>zE) (λ_ h=>zE) c ρ w _ cc j ty i hx g O
       ·rw[nZ cf,if_neg zA]at ap
        exact G A O ap
     ·rename_i l b k len es
      have D:=hX.cond _ _ _ hK
      by_cases h2:u=0
      ·rw[bW h2,if_pos A]at D
       refine⟨_,_,D,λc ρ w S j ty i hx g=>?_⟩
       have t:=i
       simp only[VR]at t
       obtain⟨b',N,cc,a,hb,rfl,C,Q,_⟩:=t
       have:=p A
       subst this
       exact⟨_,w,ρ,same h2 c ρ w _ cc j ty C i hx g,Ext.refl _,g,i⟩
      ·rw[nZ h2,if_neg zA]at D
       exact G A O D
     ·rename_i eb dj dk
      obtain⟨l',y,B,hk⟩:=vx hX hK
      refine⟨_,_,hk,λc ρ w S j ty i hx g=>?_⟩
      unfold lg at y
      split at y
      ·rename_i l2 Z e2
       cases y
       have he:e2=sz:=by
        simp only[fF]at f
        split at f
        ·rename_i he;exact he.1.symm
        ·cases f
       have t:=i
       simp only[VR]at t
       rcases t with⟨rfl,rfl⟩|⟨b',N,cc,hb,rfl,C,Q⟩
       ·have h0:n1=0:=by
         have:=J c ρ w _ i g
         simp[Builtin.lenOf]at this;exact this.symm
        subst h0
        by_cases h2:u=0
        ·subst h2
         refine⟨_,w,ρ,same A c ρ w c_ 0 j ty (dw _) i hx g,Ext.refl _,(g.kill _).Ge _ (tI ag),by simp[VR]⟩
        ·obtain⟨E,w',ρ',b1,b2,b3,b4⟩:=F _ (λ_ h=>(Access.uM h).1) Access.uK (λ_=>Access.uL) c ρ w c_ 0 j ty i hx g O
         exact⟨E,w',ρ',b1,b2,PO (g.oZ B) b3,b4⟩
       ·have h0:Z=n1:=by
         have:=J c ρ w _ i g
         simp[Builtin.lenOf]at this;exact this
        subst h0 he
        exact both _ A B c ρ w b' N cc j ty hb Q i hx g
      ·rename_i l2 Z cd e2
       cases cd with
       |none=>exact absurd A (dk _ _ _ _ _)
       |some cp=>exact absurd A (dj _ _ _ _ _ _)
      ·cases y
    ·exact zR
   ·exact zR
  ·exact zR
 ·exact zR
end
end
section
def eT.Bw(b:eT)(c k e n:Nat)(f:Nat->List AV):Option (Bool×eT):=
 match b with
 | .cells cs a=>bif a.w then M (j_ (c+k*e+n*e<=cs.length),.cells (cs.take (c+k*e)++rowsOf n f++cs.drop (c+k*e+n*e)) a)else c_
 | .rows m d g a=>bif a.w then(if e=d/\c=0 then M (j_ (k+n<=m),.rows m d (λi=>bif x_ k i&&d_ i (k+n)then f (i-k)else g i) a)else c_)else c_
 |_=>c_
def eT.Ky(b:eT)(a k e n:Nat)(f:Nat->List AV):Option (Bool×eT):=b.un.Bw a k e n f
theorem Bx{m e:Nat}{g:Nat->List AV}(h:∀i,i<m->(g i).length=e){k n:Nat}{f:Nat->List AV}(j:k+n<=m)(hl:(rowsOf n f).length=n*e:=by assumption):
  rowsOf m (λi=>bif x_ k i&&d_ i (k+n)then f (i-k)else g i)=(rowsOf m g).take (k*e)++rowsOf n f++(rowsOf m g).drop (k*e+n*e):=by
 obtain⟨d,rfl⟩:∃d,m=k+n+d:=⟨m-(k+n),O⟩
 have a:∀i,i<k->(bif x_ k i&&d_ i (k+n)then f (i-k)else g i)=g i:=λi hi=>by
  have:x_ k i=false:=by rw[o_];intro e;rw[V_]at e;omega
  rw[this];rfl
 have b:∀i,i<n->(bif x_ k (k+i)&&d_ (k+i) (k+n)then f (k+i-k)else g (k+i))=f i:=λi hi=>by
  have l:x_ k (k+i)=true:=by rw[V_];omega
  have o:d_ (k+i) (k+n)=true:=by rw[h_];omega
  grind
 have c:∀i,i<d->(bif x_ k (k+n+i)&&d_ (k+n+i) (k+n)then f (k+n+i-k)else g (k+n+i))=g (k+n+i):=λi hi=>by
  have:d_ (k+n+i) (k+n)=false:=by rw[o_];intro e;rw[h_]at e;omega
  grind
 rw[jH,jH,gY a,gY b,gY c,jH (k+n) d g,jH k n g]
 have l1:(rowsOf k g).length=k*e:=nX λi hi=>h i O
 have l2:(rowsOf n λi=>g (k+i)).length=n*e:=nX λi hi=>h _ O
 grind
theorem eT.Kz{ρ P w r N b v c k e n f us}(h:bp ρ w (M (r,N)) b)(C:∀i,i<n->(f i).length=e)
  (d:b.Bw c k e n f=M (true,v)) (hx:aU ρ (rowsOf n f) us) (y:∀u∈us,u.oneCell'=true):
  b.rw=true/\∃w',(storeCells ⟨r,c+k*e,c_⟩ us).run P w= .ok () w'/\fD r w w'/\bp ρ w' (M (r,N)) v:=by
 have hl:=nX C
 unfold eT.Bw at d
 split at d
 ·rename_i cs a
  cases ha:a.w with
  |false=>grind
  |true=>
  rw[ha]at d
  simp only[cond_true,fE,Prod.mk.injEq,bn]at d
  obtain⟨q,rfl⟩:=d
  obtain⟨w',f1,s,j⟩:=aJ.store (P:=P) h ha (o:=c+k*e) hx y O
  rw[hl]at j
  exact⟨ha,w',f1,s,j⟩
 ·rename_i m E g a
  cases ha:a.w with
  |false=>grind
  |true=>
  rw[ha,cond_true]at d
  split at d
  ·rename_i l
   obtain⟨rfl,rfl⟩:=l
   simp only[fE,Prod.mk.injEq,bn]at d
   obtain⟨B,rfl⟩:=d
   have D:=nX h.1
   have q:k*e+n*e<=m*e:=by rw[<-T_];exact i_ e B
   obtain⟨w',f1,s,j⟩:=aJ.store (P:=P) h.2 ha (o:=k*e) hx y O
   simp only[b_]
   refine⟨ha,w',f1,s,λi hi=>?_,by rw[Bx h.1 B,<-hl];exact j⟩
   cases l:x_ k i&&d_ i (k+n)with
   |true=>
    have t:=l
    simp only[bf,V_,h_]at t
    grind
   |false=>
    simp only[l,cond_false]
    exact h.1 i hi
  ·cases d
 ·cases d
theorem eT.Po{ρ P w r N b c a k e n f us}(h:bp ρ w (M (r,N)) b)(d:∀i,i<n->(f i).length=e)
  (j:b.Ky a k e n f=M (true,c)) (hx:aU ρ (rowsOf n f) us) (l:∀u∈us,u.oneCell'=true):
  b.rw=true/\∃w',(storeCells ⟨r,a+k*e,c_⟩ us).run P w= .ok () w'/\fD r w w'/\bp ρ w' (M (r,N)) c:=by
 rw[<-eT.Kk]
 exact eT.Kz h.un d j hx l
section
variable {R:Type} {X:RI R} {sem:R->Prop} (hX:X.Ok sem) {I:ba} {P:Program} (hI:I.Ok P)
def Sc:AV->Option (Nat×Nat×Nat×Nat×Nat)
 | .slice l base k len _ e=>M (l,base,k,len,e)
 | .own l len e=>M (l,0,0,len,e)
 |_=>c_
def qp(X:RI R)(I:ba)(c:TypeId)(d x:AV)(H:AH)(K:AV->AH->R):R :=
 match I.dI c with
 |some (.slice e)=>
  match I.size e with
  |some sz=>
   match Sc d,fF H sz x with
   |some (l,base,k,len,g),M (ok,n,f,_)=>
    if g=sz then
     match(H.get l).Ky base k sz (B_ n len) f with
     |some (a,b)=>X.bq (ok&&a) (K (.int l_ (B_ n len:Nat)) (H.set l b))
     |none=>X.fail
    else X.fail
   |_,_=>X.fail
  |none=>X.fail
 |_=>X.fail
include hX hI in
theorem pg{dt:TypeId}{d x:AV}{H:AH}{K:AV->AH->R}(h:sem (qp X I dt d x H K)):
  ∃a H',sem (K a H')/\∀c ρ w E u (Q:Array TypeId) ty,Q[0]? =M dt->VR ρ d E->VR ρ x u->Rel c ρ H w->∃v' w' ρ',(Builtin.copy_ Q ty #[E,u]).run P w= .ok v' w'/\Ext ρ ρ'/\Rel c ρ' H' w'/\VR ρ' a v':=by
 unfold qp at h
 split at h
 ·rename_i e S
  split at h
  ·rename_i sz T
   split at h
   ·rename_i l U k len e' ok n f cl V hv
    split at h
    ·rename_i he
     subst he
     split at h
     ·rename_i bK b o
      obtain⟨W,hK⟩:=hX.bq _ _ h
      simp only[bf]at W
      obtain⟨rfl,rfl⟩:=W
      refine⟨_,_,hK,λc ρ w E u Q ty Y s ap J=>?_⟩
      obtain⟨l1,g1,r1⟩:=QL (P:=P) hv ap J
      obtain⟨us,u1,u2,a6,u3⟩:=r1 (B_ n len) (o? _ _)
      have Z:=u3 w.drawn
      have v:∀m:Nat,VR ρ (.int l_ (m:Nat)) (goInt m):=λm=>by simp only[VR];rfl
      have run:∀(a:Addr)(cap:Nat),E= .slice (M a) len cap->(Builtin.copy_ Q ty #[E,u]).run P w=((storeCells a us).run P w).andThen λ_ w'=> .ok (goInt (B_ n len)) w':=by
       intro a cap s
       subst s
       have e1:(#[S_ (M a) len cap,u])[0]? =M (.slice (M a) len cap):=rfl
       have L:(#[S_ (M a) len cap,u])[1]? =M u:=rfl
       simp only[Builtin.copy_,Y,e1,L,Sem.run_bind,hI.aW w S,Result.andThen_ok,g1,hI.ca w T,Z,Sem.run_pure]
      have q:E= .slice c_ 0 0->len=0->(Builtin.copy_ Q ty #[E,u]).run P w= .ok (goInt (B_ n len)) w:=by
       intro s ad
       subst s ad
       have e1:(#[S_ c_ 0 0,u])[0]? =M (.slice c_ 0 0):=rfl
       have L:(#[S_ c_ 0 0,u])[1]? =M u:=rfl
       simp only[Builtin.copy_,Y,e1,L,Sem.run_bind,hI.aW w S,Result.andThen_ok,g1,hI.ca w T,Z,Sem.run_pure]
      have zero:B_ n len=0->us=[]:=λB=>by
       rw[B,n_]at u2
       exact k_ u2
      have wr:∀r N,ρ l=M (r,N)->∃w',(storeCells ⟨r,U+k*e',c_⟩ us).run P w= .ok () w'/\Rel c ρ (H.set l b) w':=by
       intro r N y
       have j:=J.dF l
       rw[y]at j
       obtain⟨a7,w',f1,t,f3⟩:=eT.Po (P:=P) j (λi hi=>l1 i (g? hi (o? _ _))) o u1 a6
       exact⟨w',f1,J.fC b a7 y t.other t.size t.os t.output t.tape f3⟩
      have F:B_ n len=0->ρ l=c_->Rel c ρ (H.set l b) w:=by
       intro B ag
       have j:=J.dF l
       rw[ag]at j
       rw[B]at o
       have a8:bp ρ w c_ b:=by
        replace j:=j.un
        unfold eT.Ky at o
        unfold eT.Bw at o
        split at o
        ·rename_i cs a G
         rw[G]at j
         cases ha:a.w with
         |false=>rw[ha]at o;cases o
         |true=>
         rw[ha]at o
         simp only[cond_true,fE,Prod.mk.injEq]at o
         obtain⟨_,rfl⟩:=o
         rcases j with⟨rfl,_⟩|⟨_,_,_,_,_,_,B,_⟩
         ·exact .inl ⟨by simp[rowsOf],rfl⟩
         ·cases B
        ·rename_i m L g a G
         rw[G]at j
         cases ha:a.w with
         |false=>rw[ha]at o;cases o
         |true=>
         rw[ha,cond_true]at o
         split at o
         ·simp only[fE,Prod.mk.injEq]at o
          obtain⟨_,rfl⟩:=o
          have e0:∀i,(bif x_ k i&&d_ i (k+0)then f (i-k)else g i)=g i:=λi=>by
           cases hc:x_ k i&&d_ i (k+0)with
           |true=>simp only[bf,V_,h_]at hc;omega
           |false=>rfl
          refine⟨λi hi=>by have:=e0 i;simp only[this];exact j.1 i hi,?_⟩
          rw[gY λi _=>e0 i]
          exact j.2
         ·cases o
        ·cases o
       refine J.Pn b ag a8 (J.below λe=>?_)
       rw[e]at o
       simp[eT.Ky,eT.Bw,eT.un]at o
      unfold Sc at V
      split at V
      ·rename_i l2 bc k2 ai cp L
       cases V
       have p:=s
       simp only[VR]at p
       obtain⟨r,N,cc,a,C,rfl,bd,ak,_⟩:=p
       by_cases bs:0<cc
       ·obtain⟨rfl,_⟩:=ak bs
        obtain⟨w',f1,t⟩:=wr r N C
        exact⟨_,w',ρ,by rw[run _ cc A,f1];rfl,Ext.refl _,t,v _⟩
       ·have B:B_ n len=0:=Nat.le_zero.1 (b? (Nat.min_le_right n len) O)
        have D:=zero B
        obtain⟨w',f1,t⟩:=wr r N C
        rw[D]at f1
        have:w'=w:=by simp[storeCells]at f1;exact f1.symm
        subst this
        exact⟨_,w',ρ,by rw[run _ cc A,D];simp[storeCells],Ext.refl _,t,v _⟩
      ·rename_i l2 ai L
       cases V
       have p:=s
       simp only[VR]at p
       rcases p with⟨rfl,rfl⟩|⟨r,N,cc,C,rfl,bd,ak⟩
       ·have B:B_ n 0=0:=Nat.min_zero n
        have D:=zero B
        cases y:ρ l with
        |none=>exact⟨_,w,ρ,q A A,Ext.refl _,F B y,v _⟩
        |some x=>
         obtain⟨r,N⟩:=x
         obtain⟨w',f1,t⟩:=wr r N y
         rw[D]at f1
         have:w'=w:=by simp[storeCells]at f1;exact f1.symm
         subst this
         exact⟨_,w',ρ,q A A,Ext.refl _,t,v _⟩
       ·obtain⟨w',f1,t⟩:=wr r N C
        simp only[n_,Q_]at f1
        exact⟨_,w',ρ,by rw[run _ cc A,f1];rfl,Ext.refl _,t,v _⟩
      ·cases V
     ·exact zR
    ·exact zR
   ·exact zR
  ·exact zR
 ·exact zR
def RY(k:IntKind)(n:Nat)(f:Nat->List AV):Bool:=(g_ n).all λi=>match f i with|[.int a _]=>j_ (a=k)|_=>false
def Xy(a:List AV):Int:=match a with|[.int _ x]=>x|_=>0
def Sd(k:IntKind):List AV->Bool
 |[]=>true
 | .int a _::cs=>j_ (a=k)&&Sd k cs
 |_=>false
def Se(k:IntKind)(n:Nat)(f:Nat->List AV):Nat->List AV->List AV
 |_,[]=>[]
 |j,.int _ x::cs=> .int k (bif d_ j n then Xy (f j)else x)::Se k n f (j+1) cs
 |j,c::cs=>c::Se k n f (j+1) cs
theorem yp{k n f}:∀(cs)(j),Sd k cs=true->n<=j->Se k n f j cs=cs
 |[],_,_,_=>rfl
 |c::cs,j,h,b=>by
  cases c<;>simp only[Sd,bf,bn,kH]at h
  obtain⟨rfl,h⟩:=h
  have:d_ j n=false:=by rw[o_];intro e;rw[h_]at e;omega
  have a:=yp (n:=n) (f:=f) cs (j+1) h O
  simp only[Se,this,cond_false,a]
theorem Gf{k n f}(b:RY k n f=true):∀(m)(cs)(j),Sd k cs=true->j+m=n->m<=cs.length->Se k n f j cs=rowsOf m (λi=>f (j+i))++cs.drop m
 |0,cs,j,h,d,_=>by rw[yp cs j h O];rfl
 |m+1,[],j,_,_,hm=>absurd hm zA
 |m+1,c::cs,j,h,d,hm=>by
  cases c<;>simp only[Sd,bf,bn,kH]at h
  obtain⟨rfl,h⟩:=h
  have g:d_ j n=true:=by rw[h_];omega
  have a:=List.all_eq_true.1 b j Y
  have l:=Gf b m cs (j+1) h O (by simp at hm;omega)
  simp only[Se,g,cond_true,List.drop_succ_cons]
  rw[l]
  have e:rowsOf (m+1) (λi=>f (j+i))=f j++rowsOf m (λi=>f (j+1+i)):=by
   have:=jH 1 m (λi=>f (j+i))
   rw[Nat.add_comm 1 m]at this
   rw[this]
   have e1:rowsOf 1 (λi=>f (j+i))=f j:=by simp[rowsOf]
   have o:(λi=>f (j+(1+i)))=λi=>f (j+1+i):=Y
   rw[e1,o]
  rw[e,m_]
  split at a
  ·rename_i x hx
   have:=pT a
   subst this
   rw[hx];rfl
  ·cases a
def KC(X:RI R)(I:ba)(b:TypeId)(d x:AV)(H:AH)(K:AV->AH->R):R :=
 match I.dI b,Sc d,x with
 |some (.slice e),M (l,0,0,len,1),.ab n 1 f=>
  match I.size e,H.get l with
  |some 1,.cells (.int c v::cs) a=>bif a_ len (cs.length+1)&&(Sd c cs&&a.w)then X.bq (x_ n len&&RY c n f) (K (.int l_ (n:Nat)) (H.set l (.cells (Se c n f 0 (.int c v::cs)) a)))else qp X I b d x H K
  |_,_=>qp X I b d x H K
 |_,_,_=>qp X I b d x H K
include hX hI in
theorem KD{o:TypeId}{d x:AV}{H:AH}{K:AV->AH->R}(h:sem (KC X I o d x H K)):
  ∃a H',sem (K a H')/\∀c ρ w t u (y:Array TypeId) ty,y[0]? =M o->VR ρ d t->VR ρ x u->Rel c ρ H w->∃B w' ρ',(Builtin.copy_ y ty #[t,u]).run P w= .ok B w'/\Ext ρ ρ'/\Rel c ρ' H' w'/\VR ρ' a B:=by
 unfold KC at h
 split at h
 ·rename_i e l len n f p E
  split at h
  ·rename_i b v cs a q hl
   cases m:a_ len (cs.length+1)&&(Sd b cs&&a.w)with
   |false=>rw[m]at h;exact pg hX hI h
   |true=>
    rw[m,cond_true]at h
    obtain⟨r,F⟩:=hX.bq _ _ h
    simp only[bf]at m r
    obtain⟨C,G,J⟩:=m
    have C:=dE C
    have L:=jX r.1
    have g:B_ n len=n:=Nat.min_eq_left L
    have j:Sd b (.int b v::cs)=true:=by simp only[Sd,G,decide_true,Bool.and_self]
    have D:=Gf r.2 n (.int b v::cs) 0 j O zJ
    have N:(λi=>f (0+i))=f:=funext λi=>by rw[b_]
    rw[N]at D
    have s:qp RI.jY I o d (.ab n 1 f) H (λa' H'=>a'= .int l_ (n:Nat)/\H'=H.set l (.cells (Se b n f 0 (.int b v::cs)) a)):=by
     unfold qp
     have Q:fF H 1 (.ab n 1 f)=M (true,n,f,false):=rfl
     have s:(H.get l).Ky 0 0 1 n f=M (j_ (n<=(N_ b v::cs).length),.cells (Se b n f 0 (.int b v::cs)) a):=by
      rw[hl]
      show(bif a.w then M (j_ (0+0*1+n*1<=(N_ b v::cs).length),eT.cells ((N_ b v::cs).take (0+0*1)++rowsOf n f++(N_ b v::cs).drop (0+0*1+n*1)) a)else c_)=_
      rw[J,cond_true,D]
      simp
     simp only[p,q,E,Q,s,if_true,g]
     exact Ze zJ zA
    obtain⟨a',H',⟨rfl,rfl⟩,k⟩:=pg (sem:=id) RI.dJ hI s
    exact⟨_,_,F,k⟩
  ·exact pg hX hI h
 ·exact pg hX hI h
end
end
section
section
variable {R:Type} {X:RI R} {sem:R->Prop} (hX:X.Ok sem) {I:ba} {P:Program} (hI:I.Ok P)
def By(X:RI R)(a:Bool)(eq:AV->AV->Option Bool)(k v:AV)(K:List (AV×AV)->R)(pre:List (AV×AV)):List (AV×AV)->R
 |[]=>K (pre++[(k,v)])
 |(c,d)::es=>match eq k c with
  |some b=>X.cond b (λ_=>match a with|true=>K (pre++(k,v)::es)|false=>X.fail) (λ_=>By X a eq k v K (pre++[(c,d)]) es)
  |none=>X.fail
theorem HV(I)(a):pX I a .any=false:=by
 cases a<;>rfl
def Sf:TypeDesc->Bool
 | .array _ _=>true
 |_=>false
def lj(X:RI R)(I:ba)(t:TypeId)(m k v:AV)(H:AH)(K:AH->R):R :=
 match I.dI t with
 |some (.map kt _)=>
  match I.dI kt,m with
  |some a,.map (M l)=>
   match H.get l,pX I a k with
   | .map es,true=>match dL es with|true=>X.fail|false=>By X (!Sf a) (DR I kt a) k v (λb=>K (H.set l (.map b))) [] es
   |_,_=>X.fail
  |_,_=>X.fail
 |_=>X.fail
theorem yq{a:Bool}{eq:AV->AV->Option Bool}{k v:AV}{K:List (AV×AV)->R}:∀{c pre:List (AV×AV)},sem (By X a eq k v K pre c)->X.Ok sem->
  (sem (K (pre++c++[(k,v)]))/\OH eq k c=M c_)∨∃i u,a=true/\i<c.length/\sem (K (pre++c.set i (k,v)))/\OH eq k c=M (M (i,u))
 |[],pre,h,_=> .inl ⟨by simpa [By]using h,rfl⟩
 |(m,g)::c,pre,h,hX=>by
  simp only[By]at h
  split at h
  ·rename_i b e
   have d:=hX.cond _ _ _ h
   cases b with
   |true=>
    simp only[if_true]at d
    cases a with
    |true=>exact .inr ⟨0,g,rfl,zA,by simpa using d,by simp[OH,e]⟩
    |false=>exact absurd d hX.fail
   |false=>
    simp only[kH,if_false]at d
    rcases yq d hX with⟨h1,f⟩|⟨i,u,j,h1,f,l⟩
    ·exact .inl ⟨by simpa using h1,by simp[OH,e,f]⟩
    ·exact .inr ⟨i+1,u,j,by simpa using h1,by simpa using f,by simp[OH,e,l]⟩
  ·exact zR
theorem xz{b k ρ c}(d:VR ρ k c):∀{a}{ms:List MapEntry}{i v},OH (my b) k a=M (M (i,v))->
  aU ρ (a.map (·.1)) (ms.map (·.key))->∃m,ms[i]? =M m/\Instr.sameNow b c m.key=M true
 |[],ms,i,v,h,h1=>by simp[OH]at h
 |(e,f)::a,[],i,v,h,h1=>by simp[aU]at h1
 |(e,f)::a,m::ms,i,v,h,h1=>by
  simp only[f_,aU.aL]at h1
  simp only[OH]at h
  split at h
  ·rename_i g
   cases h
   exact⟨m,rfl,vn g d h1.1⟩
  ·split at h
   ·rename_i j l hi
    cases h
    obtain⟨n,o,p⟩:=xz d hi h1.2
    grind
   grind
  ·cases h
theorem n9{d a b}(h:Instr.sameNow d a b=M true)(n):Instr.sameBits n b a=true:=by
 unfold Instr.sameNow at h
 split at h
 ·split at h
  ·rename_i k1 x k2 y e
   subst e
   simp at h
   subst h
   cases n<;>simp[Instr.sameBits]
  ·cases h
 ·rename_i a b
  have c:(a==b)=true:=Option.some.inj h
  have:(b==a)=true:=by
   rw[beq_toListBytes]at c⊢
   simp only[beq_iff_eq]at c⊢
   exact c.symm
  cases n<;>simp only[Instr.sameBits,this]
 ·simp at h;subst h;cases n<;>simp[Instr.sameBits]
 ·cases h
include hX hI in
theorem Sz{t:TypeId}{m k v:AV}{H:AH}{K:AH->R}(h:sem (lj X I t m k v H K)):
  ∃H',sem (K H')/\∀c ρ w L d g,VR ρ m L->VR ρ k d->VR ρ v g->Rel c ρ H w->∃w',(Instr.mapUpdate t L d g).run P w= .ok () w'/\Rel c ρ H' w':=by
 unfold lj at h
 split at h
 ·rename_i kt et hd
  split at h
  ·rename_i kd l O
   split at h
   ·rename_i es Q f
    split at h
    ·exact zR
    rename_i y
    have q:k≠ .any:=λe=>by subst e;rw[HV]at f;cases f
    have key:∀r:Option (Nat×AV),OH (DR I kt kd) k es=M r->(∀p,r=M p->Sf kd=false)->∀c ρ w L d g,VR ρ (.map (M l)) L->VR ρ k d->VR ρ v g->Rel c ρ H w->
      ∃w',(Instr.mapUpdate t L d g).run P w= .ok () w'/\Rel c ρ (H.set l (.map (match r with|none=>es++[(k,v)]|some p=>es.set p.1 (k,v)))) w':=by
     intro r E S c ρ w L d g hm T hv hr
     simp only[VR]at hm
     obtain⟨b,N,F,rfl⟩:=hm
     have B:=hr.dF l
     rw[Q,F]at B
     obtain⟨b',N',ms,a,e1,e2,Kf,U⟩:=B
     obtain⟨e3,e4⟩:=Kf.plain y
     cases e1
     have hg:(getObj b).run P w= .ok (.map ms.toArray a) w:=by simp[getObj,Sem.run,e2]
     have V:=run_checkKey (P:=P) hI O f false 9998 T w
     have C:=gM (P:=P) hI O T w E e3 e4
     have W:(H.get l).rw=true:=by rw[Q];show(!dL es)=true;rw[y];rfl
     have ai:b<w.heap.size:=(Array.getElem?_eq_some_iff.1 e2).1
     have D:∀o:Obj,(setObj b o).run P w= .ok () {w with heap:=w.heap.setIfInBounds b o}:=λo=>by simp only[setObj,Sem.run,e2]
     have fin:∀o:Obj,fD b w {w with heap:=w.heap.setIfInBounds b o}:=λo=>
      ⟨λi hi=>by simp only[z];rw[if_neg (λe=>hi e.symm)],zA,rfl,rfl,rfl⟩
     have Y:∀o:Obj,({w with heap:=w.heap.setIfInBounds b o}:World).heap[b]? =M o:=λo=>by
      simp only[z,if_true,ai]
     cases r with
     |none=>
      have s:(Instr.mapUpdate t (.map (M b)) d g).run P w= .ok () {w with heap:=w.heap.setIfInBounds b (Obj.map (ms++[({key:=d,val:=g,born:=a}:MapEntry)]).toArray (a+1))}:=by
       simp only[Instr.mapUpdate,Sem.run_bind,hI.aW w hd,Result.andThen_ok,hg,V,C,D,z_]
      refine⟨_,s,hr.fC _ W F (fin _).other (fin _).size A A A ?_⟩
      refine⟨b,N,_,_,rfl,Y _,r9.mk (DG y q) ?_ ?_,λe=>absurd e zA⟩
      ·simp only[t_,f_,p_]
       exact e3.append (aU.aL.2 ⟨T,zH⟩)
      ·simp only[t_,f_,p_]
       exact e4.append (aU.aL.2 ⟨hv,zH⟩)
     |some p=>
      obtain⟨i,pv⟩:=p
      obtain⟨m,G,Z,_⟩:=C
      have h3:Instr.sameNow kd d m.key=M true:=by
       have ak:=S _ A
       rw[sw I kt kd (by rintro n e rfl;cases ak)]at E
       obtain⟨m',g1,g2⟩:=xz T E e3
       rw[G]at g1;cases g1
       exact g2
      have s:(Instr.mapUpdate t (.map (M b)) d g).run P w= .ok () {w with heap:=w.heap.setIfInBounds b (Obj.map (ms.set i ({m with key:=d,val:=g}:MapEntry)).toArray a)}:=by
       have ad:((ms.toArray[i]?.map λx=>x.key).getD d)=m.key:=by simp[G]
       have J:(Instr.keyThatStays m.key d).run P w= .ok d w:=by
        simp[Instr.keyThatStays,n9 h3]
       have ag:ms.toArray.modify i (λe=>{e with key:=d,val:=g})=(ms.set i {m with key:=d,val:=g}).toArray:=by
        obtain⟨hi,hm⟩:=List.getElem?_eq_some_iff.1 G
        apply e_
        simp only[u_]
        apply q_
        intro j
        rw[s_,A_]
        by_cases hj:i=j
        ·subst hj;simp[hi,hm]
        ·simp[hj]
       simp only[Instr.mapUpdate,Sem.run_bind,hI.aW w hd,Result.andThen_ok,hg,V,Z,ad,J,ag,D]
      refine⟨_,s,hr.fC _ W F (fin _).other (fin _).size A A A ?_⟩
      refine⟨b,N,_,_,rfl,Y _,r9.mk (DH y q _) ?_ ?_,λe=>U (by simpa using e)⟩
      ·simp only[u?]
       exact e3.set i T
      ·simp only[u?]
       exact e4.set i hv
    rcases yq h hX with⟨G,Z⟩|⟨i,u,h0,_,G,Z⟩
    ·exact⟨_,G,by have:=key _ Z (λp e=>zG);simpa using this⟩
    ·exact⟨_,G,by have:=key _ Z (λp _=>by simpa using h0);simpa using this⟩
   ·exact zR
  ·exact zR
 ·exact zR
def gv(x:Int)(f:Nat->Int)(n:Nat):Bool:=(g_ n).any λi=>x==f i
def dY(n:Nat)(f:Nat->Int)(x:Int)(i:Nat):Int:=bif a_ i n then x else f i
def vF(X:RI R)(I:ba)(t:TypeId)(m k v:AV)(H:AH)(K:AH->R):R :=
 match I.dI t,m,k,v with
 |some (.map kt _),.map (M l),.int l_ x,.bool true=>match I.dI kt,H.get l with
  |some (.int _),.iy n f=>X.cond (gv x f n) (λ_=>K (H.set l (.iy n f))) (λ_=>K (H.set l (.iy (n+1) (dY n f x))))
  |some (.int _),.map []=>K (H.set l (.iy 1 (dY 0 (λ_=>x) x)))
  |_,_=>lj X I t m k v H K
 |_,_,_,_=>lj X I t m k v H K
theorem yr{kt kk x}{f:Nat->Int}:∀L:List Nat,
  (L.any (λi=>x==f i)=false->OH (DR I kt (.int kk)) (.int l_ x) (L.map λi=>(N_ l_ (f i),k? true))=M c_)/\
  (L.any (λi=>x==f i)=true->∃j,OH (DR I kt (.int kk)) (.int l_ x) (L.map λi=>(N_ l_ (f i),k? true))=M (M (j,.bool true)))
 |[]=>⟨λ_=>rfl,λh=>by simp at h⟩
 |i::L=>by
  obtain⟨a,b⟩:=yr (kt:=kt) (kk:=kk) (x:=x) (f:=f) L
  have e:DR I kt (.int kk) (.int l_ x) (.int l_ (f i))=M (x==f i):=by simp[DR,my]
  simp only[List.any_cons,f_,OH,e]
  grind
theorem vy{ρ}{α:Type}{g h}(k:∀a,VR ρ (g a) (h a)):∀L:List α,aU ρ (L.map g) (L.map h)
 |[]=>zH
 |a::L=>by simp only[f_];exact aU.aL.2 ⟨k a,vy k L⟩
theorem Bz(n)(f)(x):dM (n+1) (dY n f x)=dM n f++[{key:=.int l_ x,val:=.bool true,born:=n}]:=by
 simp only[dM,l?,t_,f_,p_]
 congr 1
 ·refine K_ λi hi=>?_
  have:a_ i n=false:=by
   have:=List.mem_range.1 hi
   cases a:a_ i n with
   |false=>rfl
   |true=>simp_all
  simp[dY,this]
 ·simp[dY]
include hI in
theorem BA{t kt L:TypeId}{kk:IntKind}(E:I.dI t=M (.map kt L))(d:I.dI kt=M (.int kk)){b n:Nat}{f:Nat->Int}{x:Int}{w:World}
  (F:w.heap[b]? =M (.map (dM n f).toArray n)):
  (Instr.mapUpdate t (.map (M b)) (.int l_ x) (.bool true)).run P w= .ok () {w with heap:=w.heap.setIfInBounds b (match gv x f n with
   |true=>Obj.map (dM n f).toArray n
   |false=>Obj.map (dM (n+1) (dY n f x)).toArray (n+1))}:=by
 have G:(getObj b).run P w= .ok (.map (dM n f).toArray n) w:=by simp[getObj,Sem.run,F]
 have u:VR (⟨λ_=>c_,λ_=>c_⟩:Env) (.int l_ x) (.int l_ x):=zB
 have l:=run_checkKey (P:=P) hI d (k:=.int l_ x) (by simp[pX,my]) false 9998 u w
 have B:aU (⟨λ_=>c_,λ_=>c_⟩:Env) (((g_ n).map λi=>(N_ l_ (f i),k? true)).map (·.1)) ((dM n f).map (·.key)):=by
  simp only[dM,a?]
  exact vy (λi=>by simp only[h?,VR]) _
 have H:aU (⟨λ_=>c_,λ_=>c_⟩:Env) (((g_ n).map λi=>(N_ l_ (f i),k? true)).map (·.2)) ((dM n f).map (·.val)):=by
  simp only[dM,a?]
  exact vy (λi=>by simp only[h?,VR]) _
 have c:∀o:Obj,(setObj b o).run P w= .ok () {w with heap:=w.heap.setIfInBounds b o}:=λo=>by simp only[setObj,Sem.run,F]
 obtain⟨a1,a2⟩:=yr (I:=I) (kt:=kt) (kk:=kk) (x:=x) (f:=f) (g_ n)
 cases p:gv x f n with
 |false=>
  have a:=gM (P:=P) hI d u w (a1 p) B H
  simp only[Instr.mapUpdate,Sem.run_bind,hI.aW w E,Result.andThen_ok,G,l,a,c,z_,Bz]
 |true=>
  obtain⟨j,J⟩:=a2 p
  have a:=gM (P:=P) hI d u w J B H
  obtain⟨m,v,N,_⟩:=a
  have C:Instr.sameNow (.int kk) (.int l_ x) m.key=M true:=by
   have q:=J
   rw[sw I kt (.int kk) (by rintro n e h;cases h)]at q
   obtain⟨O,g1,g2⟩:=xz u q B
   rw[v]at g1;cases g1
   exact g2
  have D:m∈dM n f:=List.mem_of_getElem? v
  obtain⟨i,_,rfl⟩:=List.mem_map.1 D
  have hx:x=f i:=by
   simp only[Instr.sameNow]at C
   simpa using C
  subst hx
  have r:(((dM n f).toArray[j]?.map λx=>x.key).getD (.int l_ (f i)))= .int l_ (f i):=by simp[v]
  have g:(Instr.keyThatStays (.int l_ (f i)) (.int l_ (f i))).run P w= .ok (.int l_ (f i)) w:=by
   simp[Instr.keyThatStays,n9 C]
  have s:(dM n f).toArray.modify j (λe=>{e with key:=.int l_ (f i),val:=.bool true})=(dM n f).toArray:=by
   obtain⟨hi,D⟩:=List.getElem?_eq_some_iff.1 v
   apply e_
   simp only[u_]
   apply q_
   intro y
   rw[s_]
   by_cases K:j=y
   ·subst K;simp[hi,D]
   ·simp[K]
  simp only[Instr.mapUpdate,Sem.run_bind,hI.aW w E,Result.andThen_ok,G,l,N,r,g,s,c]
include hX hI in
theorem qq{t:TypeId}{m k v:AV}{H:AH}{K:AH->R}(h:sem (vF X I t m k v H K)):
  ∃H',sem (K H')/\∀c ρ w j p q,VR ρ m j->VR ρ k p->VR ρ v q->Rel c ρ H w->∃w',(Instr.mapUpdate t j p q).run P w= .ok () w'/\Rel c ρ H' w':=by
 unfold vF at h
 split at h
 ·rename_i kt W l x Q
  have key:∀kk,I.dI kt=M (.int kk)->∀n f,(H.get l).rw=true->(∀ρ w o,bp ρ w o (H.get l)->bp ρ w o (.iy n f))->∀c ρ w j p q,VR ρ (.map (M l)) j->VR ρ (.int l_ x) p->VR ρ (.bool true) q->Rel c ρ H w->
    ∃w',(Instr.mapUpdate t j p q).run P w= .ok () w'/\Rel c ρ (H.set l (match gv x f n with|true=> .iy n f|false=> .iy (n+1) (dY n f x))) w':=by
   intro kk a n f C r c ρ w j p q E F G J
   simp only[VR]at E F G
   obtain⟨b,N,s,rfl⟩:=E
   subst F G
   have g:=r _ _ _ (J.dF l)
   rw[s]at g
   obtain⟨Y,Z,e1,L⟩:=g
   cases e1
   refine⟨_,BA hI Q a L,?_⟩
   have u:b<w.heap.size:=(Array.getElem?_eq_some_iff.1 L).1
   refine J.fC _ C s (λi hi=>?_) zA A A A ?_
   ·simp only[z];rw[if_neg (λe=>hi e.symm)]
   ·cases gv x f n with
    |true=>exact⟨b,N,rfl,by simp only[z,if_true,u]⟩
    |false=>exact⟨b,N,rfl,by simp only[z,if_true,u]⟩
  split at h
  ·rename_i kk n f a d
   have B:=hX.cond _ _ _ h
   have k2:=key kk a n f (by rw[d];rfl) (λρ w o g=>by rw[d]at g;exact g)
   cases y:gv x f n with
   |true=>rw[y]at B k2;exact⟨_,B,k2⟩
   |false=>rw[y]at B k2;exact⟨_,B,k2⟩
  ·rename_i kk a d
   have k2:=key kk a 0 (λ_=>x) (by rw[d];rfl) (λρ w o g=>by
    rw[d]at g
    obtain⟨b,N,ms,D,S,O,T,U⟩:=g
    obtain⟨V,_⟩:=T.plain rfl
    have e:ms=[]:=by
     cases ms with
     |nil=>rfl
     |cons x xs=>simp[aU]at V
    subst e
    rw[U A]at O
    exact⟨b,N,S,O⟩)
   exact⟨_,h,k2⟩
  ·exact Sz hX hI h
 ·exact Sz hX hI h
def cZ(n:Nat)(f:Nat->List Int)(ks:List Int)(i:Nat):List Int:=bif a_ i n then ks else f i
def nz(n:Nat)(Q:Nat->AV)(v:AV)(i:Nat):AV:=bif a_ i n then v else Q i
theorem tJ(n)(f)(ks)(u)(v):bT (n+1) (cZ n f ks) (λi=>bif a_ i n then v else u i)=bT n f u++[{key:=iL ks,val:=v,born:=n}]:=by
 simp only[bT,l?,t_,f_,p_]
 congr 1
 ·refine K_ λi hi=>?_
  have:a_ i n=false:=by
   have:=List.mem_range.1 hi
   cases a:a_ i n with
   |false=>rfl
   |true=>simp_all
  simp[cZ,this]
 ·simp[cZ]
def Vu(foc:Option (Nat×AV))(n:Nat)(f:Nat->List Int)(ks:List Int):Option Nat:=match foc with
 |some (j,_)=>match uI n f ks j with
  |true=>M j
  |false=>c_
 |none=>c_
def yu(j:Nat)(Q:Nat->AV)(v:AV)(i:Nat):AV:=bif a_ i j then v else Q i
def Pp(X:RI R)(I:ba)(t:TypeId)(n:Nat)(f:Nat->List Int)(Q:Nat->AV)(foc:Option (Nat×AV))(ks:List Int)(v:AV)(K:eT->R):R :=
 match I.dI t with
 |some (.map kt _)=>match I.dI kt with
  |some (.array len a)=>match I.dI a,I.size a with
   |some (.int _),M 1=>match Vu foc n f ks with
    |none=>X.bq (a_ ks.length len&&ln n f len&&Kv n f ks) (K (.cT (n+1) (cZ n f ks) (nz n Q v) (M (n,v))))
    |some j=>X.bq (a_ ks.length len&&ln n f len) (K (.cT n f (yu j Q v) (M (j,v))))
   |_,_=>X.fail
  |_=>X.fail
 |_=>X.fail
def RZ(I:ba)(t:TypeId):Bool:=match I.dI t with
 |some (.map kt _)=>match I.dI kt with
  |some k=>Sf k
  |_=>false
 |_=>false
def KF(X:RI R)(I:ba)(t:TypeId)(m k v:AV)(H:AH)(K:AH->R):R :=
 match m,k with
 | .map (M l),.agg cs=>match H.get l,kK cs with
  | .cT n f Q foc,M ks=>Pp X I t n f Q foc ks v λb=>K (H.set l b)
  | .map [],M ks=>bif RZ I t then Pp X I t 0 (λ_=>[]) (λ_=> .any) c_ ks v λb=>K (H.set l b)else vF X I t m k v H K
  |_,_=>vF X I t m k v H K
 |_,_=>vF X I t m k v H K
theorem xM:∀ks:List Int,Instr.sameBits 10000 (iL ks) (iL ks)=true:=λks=>by
 have h:∀ks:List Int,((ks.map λx=>X_ l_ x).zip (ks.map λx=>X_ l_ x)).all (λ(x,y)=>Instr.sameBits 9999 x y)=true:=λks=>by
  induction ks with
  |nil=>rfl
  |cons x ks a=>
   simp only[f_,List.zip_cons_cons,r?,a,Bool.and_true]
   simp[Instr.sameBits]
 show Instr.sameBits (9999+1) (.agg _) (.agg _)=true
 simp only[Instr.sameBits,BEq.rfl,Bool.true_and]
 exact h ks
theorem vz{n j:Nat}(a:j<n)(f:Nat->List Int)(u:Nat->Value)(v:Value):(bT n f u).set j {key:=iL (f j),val:=v,born:=j}=bT n f (λi=>bif a_ i j then v else u i):=by
 apply q_
 intro i
 rw[A_]
 simp only[bT,E_,List.length_range,O_]
 by_cases hi:i<n
 ·rw[L_ hi]
  by_cases e:j=i
  ·subst e;simp[a]
  ·simp only[if_neg e,R_]
   have:a_ i j=false:=by
    cases b:a_ i j with
    |false=>rfl
    |true=>exact absurd (dE b).symm e
   rw[this];rfl
 ·rw[List.getElem?_eq_none (by simpa using hi)]
  split<;>simp
  omega
include hI in
theorem R0{n:Nat}{f:Nat -> List Int}{Q:Nat -> AV}{foc:Option (Nat × AV)}{ks:List Int}{H:AH}{l:Nat}{kt e:TypeId}{len:Nat}{kk:IntKind}(g:I.dI kt = M (.array len e))(j:I.dI e = M (.int kk))(y:I.size e = M 1)(B:a_ ks.length len = true)(V:ln n f len = true):
    ∀c ρ w C t,VR ρ (.map (M l)) C -> VR ρ (.agg (dx ks)) t -> Rel c ρ H w -> bp ρ w (ρ l) (.cT n f Q foc) ->
            ∃b N u, ρ l = M (b,N) /\ C = .map (M b) /\ t = iL ks /\ w.heap[b]? = M (.map (bT n f u).toArray n) /\ (∀i,i < n -> VR ρ (Q i) (u i)) /\ (getObj b).run P w = .ok (.map (bT n f u).toArray n) w /\
              (Instr.checkKey false 10000 kt (iL ks)).run P w = .ok () w /\ (∀o:Obj,(setObj b o).run P w = .ok () { w with heap := w.heap.setIfInBounds b o }) /\ b < w.heap.size /\
              (∀r,OH (DR I kt (.array len e)) (.agg (dx ks)) ((g_ n).map λi => (AV.agg (dx (f i)),Q i)) = M r -> match r with
                |none => (Instr.findKey kt (iL ks) (bT n f u)).run P w = .ok c_ w
                |some (i,_) => ∃m,(bT n f u)[i]? = M m /\ (Instr.findKey kt (iL ks) (bT n f u)).run P w = .ok (M (i,m.val)) w) := by
  intro c ρ w C t R D hr a
  have hl:ks.length = len := dE B
  simp only[VR]at R
  obtain⟨b,N,k,rfl⟩ := R
  rw[k]at a
  obtain⟨b',N',u,e1,v,S,e4⟩ := a
  cases e1
  have E:t = iL ks := by
    have T := D
    simp only[VR]at T
    obtain⟨vs,rfl,F⟩ := T
    have:∀(ks:List Int)(vs:List Value),aU ρ (dx ks) vs -> vs = ks.map λx => X_ l_ x := by
      intro ks
      induction ks with
      |nil => intro vs h; simpa [dx,aU]using h
      |cons x ks W =>
        intro vs h
        simp only[dx,f_,aU]at h
        obtain⟨u,us,rfl,U,X⟩ := h
        simp only[VR]at U
        rw[f_, <- W us X,U]
    rw[this ks vs F]; rfl
  subst E
  have G:(getObj b).run P w = .ok (.map (bT n f u).toArray n) w := by simp[getObj,Sem.run,v]
  have d:pX I (.array len e) (.agg (dx ks)) = true := by
    simp only[pX,j,y,List.all_eq_true,List.mem_range]
    intro i hi
    simp[apart,j,TypeDesc.agg,dx,mo (O:i < ks.length)]
  have J := run_checkKey (P := P) hI g d false 9998 D w
  obtain⟨Y,Z⟩ := Bu (f := f) S
  have q:∀o:Obj,(setObj b o).run P w = .ok () { w with heap := w.heap.setIfInBounds b o } :=λo => by simp only[setObj,Sem.run,v]
  have K:b < w.heap.size := (Array.getElem?_eq_some_iff.1 v).1
  refine⟨b,N,u,k,rfl,rfl,v,S,G,J,q,K,λr L => ?_⟩
  have s := gM (P := P) hI g D w L Y Z
  cases r with
  |none => exact s
  |some p =>
    obtain⟨i,pv⟩ := p
    obtain⟨m,g1,g2,_⟩ := s
    exact⟨m,g1,g2⟩
include hX hI in
theorem Gg{t:TypeId}{n:Nat}{f:Nat->List Int}{Q:Nat->AV}{foc:Option (Nat×AV)}{ks:List Int}{v:AV}{H:AH}{l:Nat}{K:eT->R}(h:sem (Pp X I t n f Q foc ks v K)):
  ∃B,sem (K B)/\∀c ρ w D E o,VR ρ (.map (M l)) D->VR ρ (.agg (dx ks)) E->VR ρ v o->Rel c ρ H w->(H.get l).rw=true->bp ρ w (ρ l) (.cT n f Q foc)->∃w',(Instr.mapUpdate t D E o).run P w= .ok () w'/\Rel c ρ (H.set l B) w':=by
 unfold Pp at h
 split at h
 ·rename_i kt e hd
  split at h
  ·rename_i len et G
   split at h
   ·rename_i kk J L
    have F:=λak ap c ρ w D E=>R0 (P:=P) hI (n:=n) (f:=f) (Q:=Q) (foc:=foc) (ks:=ks) (H:=H) (l:=l) G J L (ak:a_ ks.length len=true) (ap:ln n f len=true) c ρ w D E
    split at h
    ·rename_i S
     obtain⟨d,T⟩:=hX.bq _ _ h
     simp only[bf]at d
     have hl:ks.length=len:=dE d.1.1
     have a6:jD n f ks=c_:=by
      have:=d.2
      unfold Kv at this
      split at this
      ·cases this
      ·assumption
     refine⟨_,T,λc ρ w D E o hm hk hv hr U q=>?_⟩
     obtain⟨b,N,u,V,rfl,rfl,e2,e3,W,Y,r,Z,g⟩:=F d.1.1 d.1.2 c ρ w D E hm hk hr q
     obtain⟨_,a2⟩:=mz (kk:=kk) G J L hl (f:=f) (Q:=λi=>Q i) (g_ n) (rc d.1.2)
     have a7:=g _ (a2 a6)
     have s:(Instr.mapUpdate t (.map (M b)) (iL ks) o).run P w= .ok () {w with heap:=w.heap.setIfInBounds b (Obj.map (bT (n+1) (cZ n f ks) (λi=>bif a_ i n then o else u i)).toArray (n+1))}:=by
      simp only[Instr.mapUpdate,Sem.run_bind,hI.aW w hd,Result.andThen_ok,W,Y,a7,r,z_,tJ]
     refine⟨_,s,hr.fC _ U V (λi hi=>?_) zA A A A ?_⟩
     ·simp only[z];rw[if_neg (λe=>hi e.symm)]
     ·refine⟨b,N,λi=>bif a_ i n then o else u i,rfl,by simp only[z,if_true,Z],λi hi=>?_,λj a e=>?_⟩
      ·cases k:a_ i n with
       |true=>simp only[nz,k,cond_true];exact hv
       |false=>
        simp only[nz,k,cond_false]
        exact e3 i (by have:i≠n:=(λe=>by rw[e,ni]at k;cases k);omega)
      ·cases e
       exact⟨O,by show VR ρ v (bif a_ n n then o else u n);rw[ni];exact hv⟩
    ·rename_i j S
     obtain⟨d,T⟩:=hX.bq _ _ h
     simp only[bf]at d
     have hl:ks.length=len:=dE d.1
     have C:jD n f ks=M j:=by
      unfold Vu at S
      split at S
      ·rename_i j' a'
       split at S
       ·rename_i hg
        cases S
        unfold uI at hg
        split at hg
        ·rename_i i hi
         rw[hi,dE hg]
        ·cases hg
       ·cases S
      ·cases S
     have y:j<n/\f j=ks:=by
      unfold jD at C
      exact⟨List.mem_range.1 (List.mem_of_find?_eq_some C),by have:=List.find?_some C;simpa using this⟩
     refine⟨_,T,λc ρ w D E o hm hk hv hr U q=>?_⟩
     obtain⟨b,N,u,V,rfl,rfl,e2,e3,W,Y,r,Z,g⟩:=F d.1 d.2 c ρ w D E hm hk hr q
     obtain⟨a1,_⟩:=mz (kk:=kk) G J L hl (f:=f) (Q:=λi=>Q i) (g_ n) (rc d.2)
     obtain⟨p,hp,ha⟩:=a1 j C
     have a8:p=j:=by
      obtain⟨bs,bc⟩:=List.getElem?_eq_some_iff.1 hp
      simpa using bc
     subst a8
     obtain⟨m,g1,g2⟩:=g _ ha
     have bd:m={key:=iL ks,val:=u p,born:=p}:=by
      simp only[bT,O_,L_ y.1,R_,fE]at g1
      rw[<-g1,y.2]
     subst bd
     have s:(Instr.mapUpdate t (.map (M b)) (iL ks) o).run P w= .ok () {w with heap:=w.heap.setIfInBounds b (Obj.map (bT n f (λi=>bif a_ i p then o else u i)).toArray n)}:=by
      have ag:(((bT n f u).toArray[p]?.map λx=>x.key).getD (iL ks))=iL ks:=by simp[g1]
      have ad:(Instr.keyThatStays (iL ks) (iL ks)).run P w= .ok (iL ks) w:=by
       simp[Instr.keyThatStays,xM]
      have ai:(bT n f u).toArray.modify p (λe=>{e with key:=iL ks,val:=o})=(bT n f (λi=>bif a_ i p then o else u i)).toArray:=by
       rw[<-vz y.1,y.2]
       obtain⟨hi,hm⟩:=List.getElem?_eq_some_iff.1 g1
       apply e_
       simp only[u_]
       apply q_
       intro j
       rw[s_,A_]
       by_cases hj:p=j
       ·subst hj;simp[hi,hm]
       ·simp[hj]
      simp only[Instr.mapUpdate,Sem.run_bind,hI.aW w hd,Result.andThen_ok,W,Y,g2,ag,ad,ai,r]
     refine⟨_,s,hr.fC _ U V (λi hi=>?_) zA A A A ?_⟩
     ·simp only[z];rw[if_neg (λe=>hi e.symm)]
     ·refine⟨b,N,λi=>bif a_ i p then o else u i,rfl,by simp only[z,if_true,Z],λi hi=>?_,λj a e=>?_⟩
      ·cases k:a_ i p with
       |true=>simp only[yu,k,cond_true];exact hv
       |false=>simp only[yu,k,cond_false];exact e3 i hi
      ·cases e
       exact⟨y.1,by show VR ρ v (bif a_ p p then o else u p);rw[ni];exact hv⟩
   ·exact zR
  ·exact zR
 ·exact zR
def Sg(X:RI R)(I:ba)(t:TypeId)(n:Nat)(f:Nat->List Int)(Q:Nat->AV)(ks:List Int)(K:AV->eT->R):R :=
 match I.dI t with
 |some (.map kt e)=>match I.dI kt,I.zero e with
  |some (.array len b),M a=>match I.dI b,I.size b with
   |some (.int _),M 1=>X.bq (a_ ks.length len&&ln n f len&&Kv n f ks) (K (.qP [a,.int l_ (Int.ofNat n)]) (.cT (n+1) (cZ n f ks) (nz n Q a) (M (n,a))))
   |_,_=>X.fail
  |_,_=>X.fail
 |_=>X.fail
def sB(X:RI R)(I:ba)(t:TypeId)(m k:AV)(H:AH)(K:AV->AH->R):R :=
 match m,k with
 | .map (M l),.agg cs=>match H.get l,kK cs with
  | .cT n f Q _,M ks=>Sg X I t n f Q ks λa b=>K a (H.set l b)
  | .map [],M ks=>Sg X I t 0 (λ_=>[]) (λ_=> .any) ks λa b=>K a (H.set l b)
  |_,_=>X.fail
 |_,_=>X.fail
def om(X:RI R)(m s v:AV)(H:AH)(K:AH->R):R :=
 match m,s with
 | .map (M l),.int l_ j=>match H.get l with
  | .cT n f Q _=>X.bq (j_ (0<=j)&&d_ j.toNat n) (K (H.set l (.cT n f (yu j.toNat Q v) (M (j.toNat,v)))))
  |_=>X.fail
 |_,_=>X.fail
theorem Vv{ρ:Env}{w:World}{o:Option (Nat×Nat)}(h:bp ρ w o (.map [])):bp ρ w o (.cT 0 (λ_=>[]) (λ_=> .any) c_):=by
 obtain⟨b,N,ms,c,e1,f,Kf,g⟩:=h
 obtain⟨k,_⟩:=Kf.plain rfl
 have d:ms=[]:=by
  have:=k.length_eq
  simp only[p_,F_,E_]at this
  exact k_ this.symm
 subst d
 rw[g A]at f
 exact⟨b,N,λ_=> .bool true,e1,f,λi hi=>absurd hi (lZ i),λj a e=>zG⟩
include hX hI in
theorem yv{t:TypeId}{n:Nat}{f:Nat->List Int}{Q:Nat->AV}{foc:Option (Nat×AV)}{ks:List Int}{H:AH}{l:Nat}{K:AV->eT->R}(h:sem (Sg X I t n f Q ks K)):
  ∃a B,sem (K a B)/\∀c ρ w D E,VR ρ (.map (M l)) D->VR ρ (.agg (dx ks)) E->Rel c ρ H w->(H.get l).rw=true->bp ρ w (ρ l) (.cT n f Q foc)->∃v w',(Instr.mapEntry t D E).run P w= .ok v w'/\Rel c ρ (H.set l B) w'/\VR ρ a v:=by
 unfold Sg at h
 split at h
 ·rename_i kt e Z
  split at h
  ·rename_i len et d q hz
   split at h
   ·rename_i kk r s
    obtain⟨g,F⟩:=hX.bq _ _ h
    simp only[bf]at g
    have hl:ks.length=len:=dE g.1.1
    have G:jD n f ks=c_:=by
     have:=g.2
     unfold Kv at this
     split at this
     ·cases this
     ·assumption
    refine⟨_,_,F,λc ρ w D E hm hk Y J x=>?_⟩
    obtain⟨b,N,u,L,rfl,rfl,e2,e3,S,T,y,U,o⟩:=R0 (P:=P) hI q r s g.1.1 g.1.2 c ρ w D E hm hk Y x
    obtain⟨_,a2⟩:=mz (kk:=kk) q r s hl (f:=f) (Q:=λi=>Q i) (g_ n) (rc g.1.2)
    have V:=o _ (a2 G)
    obtain⟨i,m,z1,z2,z3⟩:=hI.zero e d hz
    have W:(zeroValue e).run P w= .ok m w:=by simp[zeroValue,typeInfo,Sem.run_bind,z1,z2]
    have p:VR ρ d m:=jZ ρ m d z3
    have C:(Instr.mapEntry t (.map (M b)) (iL ks)).run P w= .ok (.tuple #[m,goInt n]) {w with heap:=w.heap.setIfInBounds b (Obj.map (bT (n+1) (cZ n f ks) (λi=>bif a_ i n then m else u i)).toArray (n+1))}:=by
     simp only[Instr.mapEntry,Sem.run_bind,hI.aW w Z,Result.andThen_ok,S,T,V,W,y,z_,tJ,Sem.run_pure]
    refine⟨_,_,C,Y.fC _ J L (λi hi=>?_) zA A A A ?_,?_⟩
    ·simp only[z];rw[if_neg (λe=>hi e.symm)]
    ·refine⟨b,N,λi=>bif a_ i n then m else u i,rfl,by simp only[z,if_true,U],λi hi=>?_,λj a e=>?_⟩
     ·cases k:a_ i n with
      |true=>simp only[nz,k,cond_true];exact p
      |false=>
       simp only[nz,k,cond_false]
       exact e3 i (by have:i≠n:=(λe=>by rw[e,ni]at k;cases k);omega)
     ·cases e
      exact⟨O,by show VR ρ d (bif a_ n n then m else u n);rw[ni];exact p⟩
    ·simp only[VR]
     exact⟨[m,goInt n],rfl,aU.aL.2 ⟨p,aU.aL.2 ⟨by simp only[VR];rfl,zH⟩⟩⟩
   ·exact zR
  ·exact zR
 ·exact zR
include hX hI in
theorem Sh{t:TypeId}{m k:AV}{H:AH}{K:AV->AH->R}(h:sem (sB X I t m k H K)):
  ∃a H',sem (K a H')/\∀c ρ w d e,VR ρ m d->VR ρ k e->Rel c ρ H w->∃v w',(Instr.mapEntry t d e).run P w= .ok v w'/\Rel c ρ H' w'/\VR ρ a v:=by
 unfold sB at h
 split at h
 ·rename_i l cs
  split at h
  ·rename_i n f Q foc ks g b
   cases jG b
   obtain⟨a,B,j,o⟩:=yv hX hI (l:=l) (H:=H) (foc:=foc) h
   exact⟨a,_,j,λc ρ w d e p q i=>o c ρ w d e p q i (by rw[g];rfl) (by have:=i.dF l;rw[g]at this;exact this)⟩
  ·rename_i ks g b
   cases jG b
   obtain⟨a,B,j,o⟩:=yv hX hI (l:=l) (H:=H) (foc:=c_) h
   exact⟨a,_,j,λc ρ w d e p q i=>o c ρ w d e p q i (by rw[g];rfl) (Vv (by have:=i.dF l;rw[g]at this;exact this))⟩
  ·exact zR
 ·exact zR
include hX in
theorem zU{t:TypeId}{m s v:AV}{H:AH}{K:AH->R}(h:sem (om X m s v H K)):
  ∃H',sem (K H')/\∀c ρ w F G d,VR ρ m F->VR ρ s G->VR ρ v d->Rel c ρ H w->∃w',(Instr.entryStore t F G d).run P w= .ok () w'/\Rel c ρ H' w':=by
 unfold om at h
 split at h
 ·rename_i l j
  split at h
  ·rename_i n f Q foc V
   obtain⟨x,I⟩:=hX.bq _ _ h
   simp only[bf,bn,h_]at x
   obtain⟨h0,r⟩:=x
   refine⟨_,I,λc ρ w F G d W Y Z hr=>?_⟩
   obtain⟨p,rfl⟩:∃p:Nat,j=(p:Int):=⟨j.toNat,O⟩
   rw[Int.toNat_natCast]at r⊢
   simp only[VR]at W Y
   obtain⟨b,N,y,rfl⟩:=W
   subst Y
   have q:=hr.dF l
   rw[V,y]at q
   obtain⟨b',N',u,e1,J,e3,e4⟩:=q
   cases e1
   have L:(getObj b).run P w= .ok (.map (bT n f u).toArray n) w:=by simp[getObj,Sem.run,J]
   have B:∀o:Obj,(setObj b o).run P w= .ok () {w with heap:=w.heap.setIfInBounds b o}:=λo=>by simp only[setObj,Sem.run,J]
   have S:b<w.heap.size:=(Array.getElem?_eq_some_iff.1 J).1
   have T:(bT n f u).toArray.findIdx? (λe=>(e.born:Int)==(p:Int))=M p:=by
    rw[List.findIdx?_toArray,List.findIdx?_eq_some_iff_getElem]
    refine⟨by simpa [bT]using r,by simp[bT],λk hk=>by simp[bT];omega⟩
   have C:(bT n f u).toArray.modify p (λe=>{e with val:=d})=(bT n f (λi=>bif a_ i p then d else u i)).toArray:=by
    rw[<-vz r]
    apply e_
    simp only[u_]
    apply q_
    intro j
    rw[s_,A_]
    by_cases hj:p=j
    ·subst hj
     have:(bT n f u)[p]? =M {key:=iL (f p),val:=u p,born:=p}:=by simp[bT,L_ r]
     have hl:p<(bT n f u).length:=by simpa [bT]using r
     obtain⟨_,g⟩:=List.getElem?_eq_some_iff.1 this
     simp[hl,g]
    ·simp[hj]
   have U:(asInt (.int l_ (p:Int))).run P w= .ok (p:Int) w:=by simp[asInt,asIntOf]
   have D:(Instr.entryStore t (.map (M b)) (.int l_ (p:Int)) d).run P w= .ok () {w with heap:=w.heap.setIfInBounds b (Obj.map (bT n f (λi=>bif a_ i p then d else u i)).toArray n)}:=by
    simp only[Instr.entryStore,U,Sem.run_bind,Sem.run_pure,Result.andThen_ok,L,T,C,B]
   refine⟨_,D,hr.fC _ (by rw[V];rfl) y (λi hi=>?_) zA A A A ?_⟩
   ·simp only[z];rw[if_neg (λe=>hi e.symm)]
   ·refine⟨b,N,λi=>bif a_ i p then d else u i,rfl,by simp only[z,if_true,S],λi hi=>?_,λj a e=>?_⟩
    ·cases E:a_ i p with
     |true=>simp only[yu,E,cond_true];exact Z
     |false=>simp only[yu,E,cond_false];exact e3 i hi
    ·cases e
     exact⟨r,by show VR ρ v (bif a_ p p then d else u p);rw[ni];exact Z⟩
  ·exact zR
 ·exact zR
include hX hI in
theorem KG{t:TypeId}{m k v:AV}{H:AH}{K:AH->R}(h:sem (KF X I t m k v H K)):
  ∃H',sem (K H')/\∀c ρ w g o p,VR ρ m g->VR ρ k o->VR ρ v p->Rel c ρ H w->∃w',(Instr.mapUpdate t g o p).run P w= .ok () w'/\Rel c ρ H' w':=by
 unfold KF at h
 split at h
 ·rename_i l cs
  split at h
  ·rename_i n f Q foc ks q d
   cases jG d
   obtain⟨B,s,u⟩:=Gg hX hI (l:=l) (H:=H) h
   exact⟨_,s,λc ρ w g o p x y C r=>u c ρ w g o p x y C r (by rw[q];rfl) (by have:=r.dF l;rw[q]at this;exact this)⟩
  ·rename_i ks q d
   cases ha:RZ I t with
   |false=>rw[ha]at h;exact qq hX hI h
   |true=>
    rw[ha,cond_true]at h
    cases jG d
    obtain⟨B,s,u⟩:=Gg hX hI (l:=l) (H:=H) h
    refine⟨_,s,λc ρ w g o p x y C r=>u c ρ w g o p x y C r (by rw[q];rfl) ?_⟩
    have:=r.dF l
    rw[q]at this
    obtain⟨b,N,ms,D,e1,F,Kf,G⟩:=this
    obtain⟨J,_⟩:=Kf.plain rfl
    have E:ms=[]:=by
     have:=J.length_eq
     simp only[p_,F_,E_]at this
     exact k_ this.symm
    subst E
    rw[G A]at F
    exact⟨b,N,λ_=> .bool true,e1,F,λi hi=>absurd hi (lZ i),λj a e=>zG⟩
  ·exact qq hX hI h
 ·exact qq hX hI h
end
def fw.xN(c:fw)(ρ:Env)(H:AH)(w:World)(L:Nat->Prop):fw :=
 {w0:=w
  Z:=λk=>c.Z k∨∃l N,L l/\H.get l≠ .dead/\(H.get l).rw=false/\ρ l=M (k,N)
  G:=c.G
  X:=λk=>c.X k∨∃l N,L l/\(H.get l).rw=true/\ρ l=M (k,N)
  E:=λl=>l<H.n
  DI:=ρ}
theorem Rel.xN{c:fw}{ρ:Env}{H:AH}{w:World}(h:Rel c ρ H w){L:Nat->Prop}{HM:AH}(hn:HM.n=H.n)(u:∀l,(L l/\HM.get l= .dead)∨(¬ L l/\HM.get l=H.get l)):
  Rel (c.xN ρ H w L) ρ HM w:=by
 have zz:∀{b:eT},b.rw=true->b≠ .dead:=λh e=>by rw[e]at h;cases h
 have q:∀l,HM.get l≠ .dead->¬ L l/\HM.get l=H.get l:=Y
 refine⟨λl=>?_,λl i r N j s a m d=>?_,λl r N a m t=>?_,λk f=>?_,dw _,rfl,rfl,rfl,λl hl=>h.top l O,h.fp,λl r N o m hx=>?_,λl hl=>⟨by rw[hn];exact hl,rfl⟩,λl hl=>(u l).elim (λe=>e.2) (λe=>e.2.trans (h.low l O)),h.qY,λl r N a m=>?_,λk f=>?_,λ_ _ e=>e⟩
 ·rcases u l with⟨_,e⟩|⟨_,e⟩
  ·rw[e];trivial
  ·rw[e];exact h.dF l
 ·obtain⟨_,e⟩:=q l (zz a)
  rw[e]at a
  have:=h.sep l i r N j s a m d
  grind
 ·obtain⟨hl,e⟩:=q l (zz a)
  rw[e]at a
  rcases t with t|⟨i,j,hL,o,v,d⟩
  ·exact h.gL l r N a m t
  ·exact o (h.sep l i r N j (λe=>hl (e▸hL)) a m d)
 ·refine⟨?_,rfl⟩
  have old:∀k,c.Z k∨c.X k->k<w.heap.size:=λk f=>g? (h.gH k f).1 h.size
  rcases f with(f|⟨i,j,hL,o,_,d⟩)|(f|⟨i,j,hL,a,d⟩)
  ·exact old k (.inl f)
  ·exact h.lt o d
  ·exact old k (.inr f)
  ·exact h.lt (zz a) d
 ·obtain⟨hl,e⟩:=q l o
  rw[e]at o
  rcases hx with hx|⟨i,j,hL,a,d⟩
  ·exact h.hid l r N o m hx
  ·exact o (h.sep i l r j N (λe=>hl (e▸hL)) a d m)
 ·obtain⟨_,e⟩:=q l (zz a)
  rw[e]at a
  exact h.pV l r N a m
 ·rcases f with f|⟨i,j,hL,a,d⟩
  ·exact h.xw k f
  ·exact h.pV i k j a d
theorem Rel.KH{c:fw}{ρ ρ':Env}{H H' H2:AH}{w w':World}(h:Rel c ρ H w){L:Nat->Prop}(f:Rel (c.xN ρ H w L) ρ' H' w')
  (hn:H2.n=H'.n) (t:∀l,(L l/\H2.get l=H.get l)∨(¬ L l/\H2.get l=H'.get l)):Ext ρ ρ'/\Rel c ρ' H2 w':=by
 have zz:∀{b:eT},b.rw=true->b≠ .dead:=λh e=>by rw[e]at h;cases h
 have env:∀l,l<H.n->l<H'.n/\ρ' l=ρ l:=λl hl=>f.env l hl
 have hx:Ext ρ ρ':=by
  refine⟨λl x e=>?_,f.qZ⟩
  have:l<H.n:=Nat.lt_of_not_le λD=>by rw[h.top l D]at e;cases e
  rw[(env l this).2];exact e
 have low:∀l,H.get l≠ .dead->l<H.n:=λl i=>h.below i
 have u:∀l r N,L l->H.get l≠ .dead->ρ l=M (r,N)->(c.xN ρ H w L).Z r∨(c.xN ρ H w L).X r:=λl r N hL i d=>by
  cases a:(H.get l).rw with
  |true=>exact .inr (.inr ⟨l,N,hL,a,d⟩)
  |false=>exact .inl (.inr ⟨l,N,hL,i,a,d⟩)
 refine⟨hx,λl=>?_,λl m r N B y a d o=>?_,λl r N a d q=>?_,λk C=>?_,b? h.size f.size,f.os.trans h.os,f.output.trans h.output,f.tape.trans h.tape,λl hl=>f.top l O,f.fp,λl r N i d q=>?_,λl hl=>?_,λl hl=>?_,f.qY,λl r N a d=>?_,λk C=>f.xw k (.inl C),λk vs e=>f.qZ k vs (h.qZ k vs e)⟩
 ·rcases t l with⟨hL,e⟩|⟨_,e⟩
  ·rw[e]
   by_cases i:H.get l= .dead
   ·rw[i];trivial
   ·rw[(env l (low l i)).2]
    exact bp.world (λr N e=>(f.gH r (u l r N hL i e)).2) ((h.dF l).ext hx)
  ·rw[e];exact f.dF l
 ·rcases t l with⟨hL,e⟩|⟨hL,e⟩
  ·rw[e]at a
   have i:=zz a
   rw[(env l (low l i)).2]at d
   rcases t m with⟨s,v⟩|⟨s,v⟩
   ·rw[v]
    apply v_
    intro j
    rw[(env m (low m j)).2]at o
    exact j (h.sep l m r N B y a d o)
   ·rw[v]
    apply v_
    intro j
    exact f.hid m r B j o (.inr ⟨l,N,hL,a,d⟩)
  ·rw[e]at a
   rcases t m with⟨s,v⟩|⟨s,v⟩
   ·rw[v]
    apply v_
    intro j
    rw[(env m (low m j)).2]at o
    rcases u m r B s j o with q|q
    ·exact f.gL l r N a d q
    ·exact f.hid l r N (zz a) d q
   ·rw[v]
    exact f.sep l m r N B y a d o
 ·rcases t l with⟨hL,e⟩|⟨hL,e⟩
  ·rw[e]at a
   rw[(env l (low l (zz a))).2]at d
   exact h.gL l r N a d q
  ·rw[e]at a
   exact f.gL l r N a d (.inl q)
 ·obtain⟨d,o⟩:=h.gH k C
  exact⟨d,((f.gH k (C.imp .inl .inl)).2).trans o⟩
 ·rcases t l with⟨hL,e⟩|⟨hL,e⟩
  ·rw[e]at i
   rw[(env l (low l i)).2]at d
   exact h.hid l r N i d q
  ·rw[e]at i
   exact f.hid l r N i d (.inl q)
 ·obtain⟨d,o⟩:=h.env l hl
  grind
 ·rcases t l with⟨_,e⟩|⟨_,e⟩
  grind
  ·rw[e];exact f.low l O
 ·rcases t l with⟨hL,e⟩|⟨hL,e⟩
  ·rw[e]at a
   rw[(env l (low l (zz a))).2]at d
   exact f.xw r (.inr ⟨l,N,hL,a,d⟩)
  ·rw[e]at a
   exact f.pV l r N a d
end
section
inductive CO where
 |ret (a:AV) (H:AH)
 |qt (a:AV) (H:AH)
def CO.sem{R:Type}(sem:R->Prop)(b kp:AV->AH->R):CO->Prop
 | .ret a H=>sem (b a H)
 | .qt a H=>sem (kp a H)
def WF(ro:Option Nat):Fence:={Fence.wide with round:=ro}
def CO.post(o:CO)(c:fw)(ρ:Env)(e:Ending)(w':World):Prop :=
 match o,e with
 | .ret a H,.returned v=> ∃ρ',Ext ρ ρ'/\Rel c ρ' H w'/\VR ρ' a v
 | .qt a H,.panicked b=> ∃ρ' v,b=[{v,recovered:=false}]/\Ext ρ ρ'/\Rel c ρ' H w'/\VR ρ' a v
 |_,_=>False
def af(P:Program)(I:ba)(f:FuncId)(args:List AV)(H:AH)(o:CO):Prop :=
 ∀c ρ w vs,c.G=I.G->aU ρ args vs->Rel c ρ H w->
  ((callFunc f vs.toArray).run P w= .ok (.enter f vs.toArray) w/\Calls P f vs.toArray w (o.post c ρ))∨
  (∃v w',(callFunc f vs.toArray).run P w= .ok (.value v) w'/\o.post c ρ (.returned v) w')
abbrev iQ(R:Type):=FuncId->List AV->AH->(AV->AH->R)->(AV->AH->R)->R
def gN{R:Type}(P:Program)(I:ba)(sem:R->Prop)(a:iQ R):Prop :=
 ∀f args H b kp,sem (a f args H b kp)->∃o:CO,o.sem sem b kp/\af P I f args H o
def D2(P:Program)(I:ba)(l:Nat)(args:List AV)(H:AH)(a:AV)(H':AH):Prop :=
 ∀c ρ w vs b N,c.G=I.G->aU ρ args vs->Rel c ρ H w->ρ l=M (b,N)->
  ∃f tmps as d,(Instr.yield b vs.toArray).run P w= .ok (.round b f tmps as d) w/\∀n,RoundIn (WF c_) n P b f tmps as d w ((CO.ret a H').post c ρ)
abbrev gZ(R:Type):=Nat->List AV->AH->(AV->AH->R)->R
def Ke{R:Type}(P:Program)(I:ba)(sem:R->Prop)(round:gZ R):Prop :=
 ∀l args H b,sem (round l args H b)->∃a H',sem (b a H')/\D2 P I l args H a H'
section
variable {R:Type} {X:RI R} {sem:R->Prop} (hX:X.Ok sem) {I:ba} {P:Program} (hI:I.Ok P)
def Pq(X:RI R)(I:ba)(d:iQ R)(round:gZ R)(o:Oper)(ev:Operand->AV)(H:AH)(c kp:AV->AH->R):R :=
 match o.op with
 | .store t a x=>DZ X I t (ev a) (ev x) H (λH'=>c (.qP []) H')
 | .mapUpdate t m k v=>KF X I t (ev m) (ev k) (ev v) H (λH'=>c (.qP []) H')
 | .mapEntry t m k=>sB X I t (ev m) (ev k) H c
 | .entryStore t m s x=>om X (ev m) (ev s) (ev x) H (λH'=>c (.qP []) H')
 | .insert t m k v=>lj X I t (ev m) (ev k) (ev v) H (λH'=>c (.qP []) H')
 | .panic x=>match ev x with
  | .iface t v=>kp (.iface t v) H
  |_=>X.fail
 | .call {callee:=.value f,args,..}=>match ev f with
  | .fn g first h=>d g (first++args.toList.map ev++h) H c kp
  | .yield l=>round l (args.toList.map ev) H c
  |_=>X.fail
 | .call {callee:=.builtin .append,args,argTypes}=>match args.toList,argTypes.toList with
  |[a,b],[s,t]=>Sb X I s t (ev a) (ev b) H c
  |_,_=>X.fail
 | .call {callee:=.builtin .copy,args,argTypes}=>match args.toList,argTypes.toList with
  |[a,b],s::_=>KC X I s (ev a) (ev b) H c
  |_,_=>X.fail
 | .call {callee:=.builtin .unsafeSliceData,args,..}=>match args.toList with
  |[a]=>match ev a with
   | .aw=>c .nilPtr H
   | .own l len e=>X.bq (j_ (0<len)) (c (.ptr l 0 e 0) H)
   |_=>X.fail
  |_=>X.fail
 | .call {callee:=.builtin .unsafeString,args,argTypes}=>match args.toList,argTypes.toList with
  |[p,n],[q,_]=>match ev p,ev n with
   | .nilPtr,.int l_ m=>X.bq (j_ (m=0)) (c (.str []) H)
   | .ptr l k e j,.int l_ m=>match I.dI q,(H.get l).acc with
    |some (.pointer u),.ty t=>match I.size u,(H.get l).bytes 0 m.toNat with
     |some 1,M (ok,r)=>X.bq (ok&&a_ t u&&a_ (k*e+j) 0&&j_ (0<m)&&j_ (m<=9223372036854775807)&&(H.get l).rw) (c (.str r) (H.set l .dead))
     |_,_=>X.fail
    |_,_=>X.fail
   |_,_=>X.fail
  |_,_=>X.fail
 | .range t x=>match I.dI t,ev x with
  |some (.map _ _),.map (M l)=>match H.get l with
   | .map []=>c (.ptr H.n 0 0 0) (H.new (.iter l))
   | .iy n _=>c (.ptr H.n 0 0 0) (H.new (.dX l n []))
   | .cT n _ _ _=>c (.ptr H.n 0 0 0) (H.new (.dX l n []))
   |_=>X.fail
  |_,_=>X.fail
 | .next it false=>match ev it with
  | .ptr i 0 0 0=>match H.get i with
   | .iter l=>match H.get l with
    | .map []=>c (.qP [.bool false]) H
    |_=>X.fail
   | .dX l n S=>match H.get l with
    | .cT m f _ (M (j,a))=>match S with
     |[]=>X.bq (a_ n 1&&a_ m 1&&a_ j 0) (c (.qP [.bool true,.agg (dx (f 0)),a]) (H.set i (.dX l n [0])))
     |x::_=>X.bq (a_ n 1&&a_ m 1&&a_ x 0) (c (.qP [.bool false]) H)
    |_=>X.fail
   |_=>X.fail
  |_=>X.fail
 | .entry it=>match ev it with
  | .ptr i 0 0 0=>match H.get i with
   | .dX l n (j::_)=>match H.get l with
    | .iy m f=>X.bq (a_ n m&&d_ j n) (c (.qP [.int l_ (f j),.bool true]) H)
    | .cT m f _ (M (x,a))=>X.bq (a_ n m&&d_ j n&&a_ x j) (c (.qP [.agg (dx (f j)),a]) H)
    |_=>X.fail
   |_=>X.fail
  |_=>X.fail
 |_=>DW X I o ev H c
theorem vB{n j:Nat}{f:Nat->Int}(h:j<n):({key:=.int l_ (f j),val:=.bool true,born:=j}:MapEntry)∈(dM n f).toArray.toList :=
 List.mem_map.2 ⟨j,List.mem_range.2 h,rfl⟩
theorem Si(n)(f):((dM n f).toArray.toList.map (·.born)).Nodup:=by
 have:(dM n f).toArray.toList.map (·.born)=g_ n:=by
  simp[dM,c?]
 grind
def rj(P:Program)(I:ba)(o:Oper)(ev:Operand->AV)(H:AH)(out:CO):Prop :=
 ∀ro n c ρ w (a:Act) (next:Act->World->Prop) (Q:Exit->Act->World->Prop),c.G=I.G->(∀x,VR ρ (ev x) (a.eval x))->Rel c ρ H w->
  (∀v H' u w' ρ',out= .ret v H'->Ext ρ ρ'->Rel c ρ' H' w'->VR ρ' v u->next (a.put o.dst u) w')->
  (∀v H' u w' ρ',out= .qt v H'->Ext ρ ρ'->Rel c ρ' H' w'->VR ρ' v u->Q (.panic [{v:=u,recovered:=false}]) a w')->
  o.wpIn (WF ro) n P a w next Q
theorem iA{o:Oper}{w}{a:Act}{P ro}:∀f,o.about P w a.eval=M f->(WF ro).fn f:=λ_ _=>trivial
theorem Be{o ev H K}(hX:X.Ok sem)(h:sem (DW X I o ev H K)):∀c,o.op≠ .defer c:=by
 intro c a
 unfold DW at h
 rw[a]at h
 exact hX.fail h
include hX hI in
theorem Pr{o:Oper}{ev:Operand->AV}{H:AH}{b kp:AV->AH->R}(h:sem (DW X I o ev H b)):∃out:CO,out.sem sem b kp/\rj P I o ev H out:=by
 have d:=Be hX h
 obtain⟨v,H',e,f⟩:=Gd hX hI h
 refine⟨.ret v H',e,λro n c ρ w a next Q hG g i hn m=>⟨iA,?_⟩⟩
 obtain⟨u,w',ρ',e1,j,k,l,_⟩:=f c ρ w a.eval g i
 rw[Oper.semAt_eq _ _ _ d,e1,Oper.uponIn_value]
 exact hn v H' u w' ρ' A j k l
theorem uN{o ev H H'}{s:(Operand->Value)->Sem Unit}(b:∀c,o.op≠ .defer c)(d:∀e,execOp e o=(do s e;pure .skip))
  (h:∀c ρ w (e),(∀x,VR ρ (ev x) (e x))->Rel c ρ H w->∃w',(s e).run P w= .ok () w'/\Rel c ρ H' w'):rj P I o ev H (.ret (.qP []) H'):=by
 intro ro n c ρ w a next Q hG f g hn j
 refine⟨iA,?_⟩
 obtain⟨w',e1,i⟩:=h c ρ w a.eval f g
 rw[Oper.semAt_eq _ _ _ b,d]
 simp only[Sem.run_bind,e1,Result.andThen_ok,Sem.run_pure,Oper.uponIn_skip]
 exact hn _ _ _ w' ρ A (Ext.refl _) i (by simp only[VR];exact⟨[],rfl,zH⟩)
theorem lY{o ev H H' v}(d:∀c,o.op≠ .defer c)
  (h:∀c ρ w (e),(∀x,VR ρ (ev x) (e x))->Rel c ρ H w->∃b w' ρ',(execOp e o).run P w= .ok (.value b) w'/\Ext ρ ρ'/\Rel c ρ' H' w'/\VR ρ' v b):rj P I o ev H (.ret v H'):=by
 intro ro n c ρ w a next Q hG f g hn i
 refine⟨iA,?_⟩
 obtain⟨b,w',ρ',e1,j,k,l⟩:=h c ρ w a.eval f g
 rw[Oper.semAt_eq _ _ _ d,e1,Oper.uponIn_value]
 grind
include hX hI in
theorem D3{b0:iQ R}(b4:gN P I sem b0){round:gZ R}(bR:Ke P I sem round){o:Oper}{ev:Operand->AV}{H:AH}{kn kp:AV->AH->R}(h:sem (Pq X I b0 round o ev H kn kp)):
  ∃out:CO,out.sem sem kn kp/\rj P I o ev H out:=by
 unfold Pq at h
 split at h
 ·rename_i t a x D
  obtain⟨H',L,U⟩:=HT hX hI h
  refine⟨.ret (.qP []) H',L,uN (s:=λe=>Instr.storeAt t (e a) (e x)) (by simp[D]) (λe=>by simp[execOp,D]) λc ρ w e B C=>U c ρ w _ _ (B a) (B x) C⟩
 ·rename_i t m k v D
  obtain⟨H',L,U⟩:=KG hX hI h
  refine⟨.ret (.qP []) H',L,uN (s:=λe=>Instr.mapUpdate t (e m) (e k) (e v)) (by simp[D]) (λe=>by simp[execOp,D]) λc ρ w e B C=>U c ρ w _ _ _ (B m) (B k) (B v) C⟩
 ·rename_i t m k D
  obtain⟨a,H',L,U⟩:=Sh hX hI h
  refine⟨.ret a H',L,lY (by simp[D]) λc ρ w e B C=>?_⟩
  obtain⟨v,w',k1,k2,k3⟩:=U c ρ w _ _ (B m) (B k) C
  exact⟨v,w',ρ,by simp[execOp,D,k1],Ext.refl _,k2,k3⟩
 ·rename_i t m s x D
  obtain⟨H',L,U⟩:=zU hX (P:=P) (t:=t) h
  refine⟨.ret (.qP []) H',L,uN (s:=λe=>Instr.entryStore t (e m) (e s) (e x)) (by simp[D]) (λe=>by simp[execOp,D]) λc ρ w e B C=>U c ρ w _ _ _ (B m) (B s) (B x) C⟩
 ·rename_i t m k v D
  obtain⟨H',L,U⟩:=Sz hX hI h
  refine⟨.ret (.qP []) H',L,uN (s:=λe=>Instr.mapUpdate t (e m) (e k) (e v)) (by simp[D]) (λe=>by simp[execOp,D]) λc ρ w e B C=>U c ρ w _ _ _ (B m) (B k) (B v) C⟩
 ·rename_i x D
  split at h
  ·rename_i t v hx
   refine⟨.qt (.iface t v) H,h,λro n c ρ w a next Q hG B C hn hp=>⟨iA,?_⟩⟩
   have y:=B x
   rw[hx]at y
   have b9:=y
   simp only[VR]at b9
   obtain⟨u,hu,_⟩:=b9
   have E:(execOp a.eval o).run P w= .halt (.panic (.iface t u)) w:=by
    simp only[execOp,D,hu,Instr.panic]
    simp[goPanic,Sem.run]
   rw[Oper.semAt_eq _ _ _ (by simp[D]),E,Oper.uponIn_panic]
   rw[hu]at y
   exact hp _ _ _ w ρ A (Ext.refl _) C y
  ·exact zR
 ·rename_i f args ai D
  have ap:∀{ρ:Env}{e:Operand->Value},(∀x,VR ρ (ev x) (e x))->aU ρ (args.toList.map ev) (args.toList.map e):=λB=>aU.of_map B args.toList
  split at h
  ·rename_i g first dj hf
   obtain⟨out,L,U⟩:=b4 _ _ _ _ _ h
   refine⟨out,L,λro n c ρ w a next Q hG B C hn hp=>⟨iA,?_⟩⟩
   have y:=B f
   rw[hf]at y
   simp only[VR]at y
   obtain⟨us,vs,b5,cd,cf⟩:=y
   have E:(execOp a.eval o).run P w=(callFunc g (us++args.toList.map a.eval++vs).toArray).run P w:=by
    have e1:us.toArray++args.map a.eval++vs.toArray=(us++args.toList.map a.eval++vs).toArray:=by apply e_;simp
    simp only[execOp,D,resolve,b5,Deferred.ofValue,Sem.run_bind,Sem.run_pure,Result.andThen_ok,invoke,e1]
   rw[Oper.semAt_eq _ _ _ (by simp[D]),E]
   rcases U c ρ w _ hG ((cd.append (ap B)).append cf) C with⟨k1,k2⟩|⟨v,w',k1,k2⟩
   ·rw[k1,Oper.uponIn_enter]
    refine⟨λhh=>by simp[WF,Fence.wide]at hh,?_⟩
    have:CallsIn Fence.wide (n-1) P g (us++args.toList.map a.eval++vs).toArray w (out.post c ρ):=callsIn_wide.2 k2
    refine CallsIn.mono (F:=WF ro) (show CallsIn (WF ro) (n-1) P g _ w (out.post c ρ)from this) λe w' K=>?_
    cases out with
    |ret v H'=>
     cases e with
     |returned u=>
      obtain⟨ρ',p1,p2,p3⟩:=K
      exact hn v H' u w' ρ' A p1 p2 p3
     |panicked ch=>exact K.elim
     |outgrown=>exact K.elim
    |qt v H'=>
     cases e with
     |returned u=>exact K.elim
     |panicked ch=>
      obtain⟨ρ',u,rfl,p1,p2,p3⟩:=K
      exact hp v H' u w' ρ' A p1 p2 p3
     |outgrown=>exact K.elim
   ·rw[k1,Oper.uponIn_value]
    cases out with
    |ret v' H'=>
     obtain⟨ρ',p1,p2,p3⟩:=k2
     exact hn v' H' v w' ρ' A p1 p2 p3
    |qt v' H'=>exact k2.elim
  ·rename_i l hf
   obtain⟨b,H',L,U⟩:=bR _ _ _ _ h
   refine⟨.ret b H',L,λro n c ρ w a next Q hG B C hn hp=>⟨iA,?_⟩⟩
   have y:=B f
   rw[hf]at y
   simp only[VR]at y
   obtain⟨bb,N,hl,b5⟩:=y
   obtain⟨fn,tmps,as,bd,k1,k2⟩:=U c ρ w _ bb N hG (ap B) C hl
   have E:(execOp a.eval o).run P w= .ok (.round bb fn tmps as bd) w:=by
    have e1 : #[]++args.map a.eval=(args.toList.map a.eval).toArray:=by apply e_;simp
    simp only[execOp,D,resolve,b5,Deferred.ofValue,Sem.run_bind,Sem.run_pure,Result.andThen_ok,invoke,e1]
    exact k1
   rw[Oper.semAt_eq _ _ _ (by simp[D]),E,Oper.uponIn_round]
   refine⟨λhh=>by simp[WF,Fence.wide]at hh,?_⟩
   refine RoundIn.mono (F:=WF ro) (show RoundIn (WF ro) (n-1) P bb fn tmps as bd w ((CO.ret b H').post c ρ)from k2 (n-1)) λe w' K=>?_
   cases e with
   |returned u=>
    obtain⟨ρ',p1,p2,p3⟩:=K
    exact hn b H' u w' ρ' A p1 p2 p3
   |panicked ch=>exact K.elim
   |outgrown=>exact K.elim
  ·exact zR
 ·rename_i args ai D
  split at h
  ·rename_i a b s t ha a6
   obtain⟨v,H',L,U⟩:=D1 hX hI h
   refine⟨.ret v H',L,lY (by simp[D]) λc ρ w e B C=>?_⟩
   obtain⟨v',w',ρ',k1,k2⟩:=U c ρ w (e a) (e b) o.type (B a) (B b) C
   have e1:args.map e= #[e a,e b]:=by apply e_;simp[ha]
   have Z:ai= #[s,t]:=by apply e_;simp[a6]
   refine⟨v',w',ρ',?_,k2⟩
   simp only[execOp,D,resolve,Sem.run_bind,Sem.run_pure,Result.andThen_ok,invoke,builtin,e1,Z,k1]
  ·exact zR
 ·rename_i args ai D
  split at h
  ·rename_i a b s ts ha a6
   obtain⟨v,H',L,U⟩:=KD hX hI h
   refine⟨.ret v H',L,lY (by simp[D]) λc ρ w e B C=>?_⟩
   obtain⟨v',w',ρ',k1,k2⟩:=U c ρ w (e a) (e b) ai o.type (by rw[<-Array.getElem?_toList,a6];rfl) (B a) (B b) C
   have e1:args.map e= #[e a,e b]:=by apply e_;simp[ha]
   refine⟨v',w',ρ',?_,k2⟩
   simp only[execOp,D,resolve,Sem.run_bind,Sem.run_pure,Result.andThen_ok,invoke,builtin,e1,k1]
  ·exact zR
 ·rename_i args ai D
  split at h
  ·rename_i a ha
   have e1:∀e:Operand->Value,args.map e= #[e a]:=λe=>by apply e_;simp[ha]
   split at h
   ·rename_i hx
    refine⟨.ret .nilPtr H,h,lY (by simp[D]) λc ρ w e B C=>?_⟩
    have y:=B a
    rw[hx]at y
    simp only[VR]at y
    refine⟨.pointer c_,w,ρ,?_,Ext.refl _,C,zB⟩
    simp only[execOp,D,resolve,Sem.run_bind,Sem.run_pure,Result.andThen_ok,invoke,builtin,e1,y,Lib.run_unsafeSliceData_nil]
   ·rename_i l len e0 hx
    obtain⟨L,U⟩:=hX.bq _ _ h
    simp only[bn]at L
    refine⟨.ret (.ptr l 0 e0 0) H,U,lY (by simp[D]) λc ρ w e B C=>?_⟩
    have y:=B a
    rw[hx]at y
    simp only[VR]at y
    rcases y with⟨h0,_⟩|⟨b,N,cc,hb,y,hle,_⟩
    ·omega
    ·refine⟨.pointer (M ⟨b,0,c_⟩),w,ρ,?_,Ext.refl _,C,by simp only[VR];exact⟨b,N,hb,zA⟩⟩
     have ak:∀ts ty,(Builtin.unsafeSliceData_ ts ty #[.slice (M ⟨b,0,c_⟩) len cc]).run P w= .ok (.pointer (M ⟨b,0,c_⟩)) w:=λts ty=>Lib.run_unsafeSliceData_row w ts ty _ _ _ O
     simp only[execOp,D,resolve,Sem.run_bind,Sem.run_pure,Result.andThen_ok,invoke,builtin,e1,y,ak]
   ·exact zR
  ·exact zR
 ·rename_i args ai D
  split at h
  ·rename_i p n pt it ha a6
   have e1:∀e:Operand->Value,args.map e= #[e p,e n]:=λe=>by apply e_;simp[ha]
   have Z:ai= #[pt,it]:=by apply e_;simp[a6]
   split at h
   ·rename_i m hp hn
    obtain⟨L,U⟩:=hX.bq _ _ h
    simp only[bn]at L
    subst L
    refine⟨.ret (.str []) H,U,lY (by simp[D]) λc ρ w e B C=>?_⟩
    have Y:=B p
    have ad:=B n
    rw[hp]at Y
    rw[hn]at ad
    simp only[VR]at Y ad
    refine⟨.string .empty,w,ρ,?_,Ext.refl _,C,by simp only[VR];rfl⟩
    simp only[execOp,D,resolve,Sem.run_bind,Sem.run_pure,Result.andThen_ok,invoke,builtin,e1,Z,Y,ad,Lib.run_unsafeString_none]
   ·rename_i l k e0 j m hp hn
    split at h
    ·rename_i u t hu J
     split at h
     ·rename_i ok bs cg cm
      obtain⟨L,U⟩:=hX.bq _ _ h
      simp only[bf,bn]at L
      obtain⟨⟨⟨⟨⟨rfl,b6⟩,a7⟩,dk⟩,dn⟩,cn⟩:=L
      have b6:=dE b6
      have a7:=dE a7
      subst b6
      refine⟨.ret (.str bs) (H.set l .dead),U,lY (by simp[D]) λc ρ w e B C=>?_⟩
      have Y:=B p
      have ad:=B n
      rw[hp]at Y
      rw[hn]at ad
      simp only[VR]at Y ad
      obtain⟨b,N,hb,Y⟩:=Y
      have G:=C.dF l
      rw[hb]at G
      obtain⟨b1,b2,b3⟩:=eT.vl G cm
      have cp:w.shape? b=M (t,N):=by
       cases hx:H.get l with
       |cells cs a=>
        rw[hx]at G J
        simp only[eT.acc]at J
        obtain⟨el,s1,_,s3⟩:=aJ.shape G
        rw[s3 _ J]at s1
        exact s1
       |rows q Z f a=>
        rw[hx]at G J
        simp only[eT.acc]at J
        obtain⟨el,s1,_,s3⟩:=aJ.shape G.2
        rw[s3 _ J]at s1
        exact s1
       |str q a=>
        rw[hx]at G J
        simp only[eT.acc]at J
        obtain⟨el,s1,_,s3⟩:=aJ.shape G
        rw[s3 _ J]at s1
        exact s1
       |map=>rw[hx]at J;simp only[eT.acc]at J;split at J<;>cases J
       |loop|tE|iter|iy|dX|cT|dead=>rw[hx]at J;simp[eT.acc]at J
      obtain⟨i,i1,i2⟩:=hI.size _ _ cg
      have hc:P.cellsOf t=1:=by simp[Program.cellsOf,i1,i2]
      have b7:bs≠[]:=λe=>by rw[e]at b1;simp at b1;omega
      have hm:m=(bs.length:Int):=by rw[b1];omega
      have E:(Builtin.unsafeString_ #[pt,it] o.type #[.pointer (M ⟨b,0,c_⟩),.int l_ bs.length]).run P w= .ok (.string ⟨bs.toArray⟩) (w.freeze ⟨b,0,c_⟩ bs.length):=
       Lib.run_unsafeString_row w pt it o.type t (hI.dI _ _ hu) hc b N cp bs b7 O O λj x hx=>by
        obtain⟨hj,cr⟩:=List.getElem?_eq_some_iff.1 hx
        have:=b3 j hj
        rw[addr_add,this,cr]
      refine⟨.string ⟨bs.toArray⟩,w.freeze ⟨b,0,c_⟩ bs.length,ρ,?_,Ext.refl _,?_,zB⟩
      ·rw[hm]at ad
       rw[a7]at Y
       simp only[execOp,D,resolve,Sem.run_bind,Sem.run_pure,Result.andThen_ok,invoke,builtin,e1,Z,Y,ad,E]
      ·refine C.fC .dead cn hb (λk hk=>?_) ?_ ?_ ?_ ?_ trivial
       ·unfold World.freeze
        split
        ·rfl
        ·simp only[Array.getElem?_modify]
         rw[if_neg (λe=>hk e.symm)]
       all_goals(unfold World.freeze;split<;>simp)
     ·exact zR
    ·exact zR
   ·exact zR
  ·exact zR
 ·rename_i t x D
  split at h
  ·rename_i kt vt l ht hx
   split at h
   ·rename_i hl
    refine⟨.ret (.ptr H.n 0 0 0) (H.new (.iter l)),h,lY (by simp[D]) λc ρ w e B C=>?_⟩
    have y:=B x
    rw[hx]at y
    simp only[VR]at y
    obtain⟨m,d,hm,y⟩:=y
    have G:=C.dF l
    rw[hl,hm]at G
    obtain⟨b,N,ms,T,e1,Z,Kf,_⟩:=G
    have e3:=(Kf.plain A).1
    cases e1
    have a8:l≠H.n:=λe=>by rw[e,C.top _ (dw _)]at hm;cases hm
    obtain⟨bc,ak⟩:=C.new (.mapIter (M m) T #[] T) 0 (.iter l) λw' bK=>
     ⟨_,_,m,d,T,T,rfl,by rw[Env.ec _ _ a8];exact hm,dw _,bK⟩
    refine⟨_,_,_,?_,bc,ak,by simp only[VR];exact⟨w.heap.size,0,Env.cP _ _ _,rfl⟩⟩
    simp only[execOp,D,y,Sem.run_bind,Go.run_range_map w t kt vt m ms.toArray T (hI.dI _ _ ht) Z,Result.andThen_ok,Sem.run_pure]
    rfl
   ·rename_i n f hl
    refine⟨.ret (.ptr H.n 0 0 0) (H.new (.dX l n [])),h,lY (by simp[D]) λc ρ w e B C=>?_⟩
    have y:=B x
    rw[hx]at y
    simp only[VR]at y
    obtain⟨m,d,hm,y⟩:=y
    have G:=C.dF l
    rw[hl,hm]at G
    obtain⟨b,N,e1,Z⟩:=G
    cases e1
    have a8:l≠H.n:=λe=>by rw[e,C.top _ (dw _)]at hm;cases hm
    obtain⟨bc,ak⟩:=C.new (.mapIter (M m) n #[] n) 0 (.dX l n []) λw' bK=>
     ⟨_,_,m,d,rfl,by rw[Env.ec _ _ a8];exact hm,bK⟩
    refine⟨_,_,_,?_,bc,ak,by simp only[VR];exact⟨w.heap.size,0,Env.cP _ _ _,rfl⟩⟩
    simp only[execOp,D,y,Sem.run_bind,Go.run_range_map w t kt vt m _ n (hI.dI _ _ ht) Z,Result.andThen_ok,Sem.run_pure]
    rfl
   ·rename_i n f Q foc hl
    refine⟨.ret (.ptr H.n 0 0 0) (H.new (.dX l n [])),h,lY (by simp[D]) λc ρ w e B C=>?_⟩
    have y:=B x
    rw[hx]at y
    simp only[VR]at y
    obtain⟨m,d,hm,y⟩:=y
    have G:=C.dF l
    rw[hl,hm]at G
    obtain⟨b,N,u,e1,Z,_⟩:=G
    cases e1
    have a8:l≠H.n:=λe=>by rw[e,C.top _ (dw _)]at hm;cases hm
    obtain⟨bc,ak⟩:=C.new (.mapIter (M m) n #[] n) 0 (.dX l n []) λw' bK=>
     ⟨_,_,m,d,rfl,by rw[Env.ec _ _ a8];exact hm,bK⟩
    refine⟨_,_,_,?_,bc,ak,by simp only[VR];exact⟨w.heap.size,0,Env.cP _ _ _,rfl⟩⟩
    simp only[execOp,D,y,Sem.run_bind,Go.run_range_map w t kt vt m _ n (hI.dI _ _ ht) Z,Result.andThen_ok,Sem.run_pure]
    rfl
   ·exact zR
  ·exact zR
 ·rename_i it D
  split at h
  ·rename_i i bN
   split at h
   ·rename_i l hi
    split at h
    ·rename_i hl
     refine⟨.ret (.qP [.bool false]) H,h,lY (by simp[D]) λc ρ w e B C=>?_⟩
     have y:=B it
     rw[bN]at y
     simp only[VR]at y
     obtain⟨r,R',ag,y⟩:=y
     have V:=C.dF i
     rw[hi,ag]at V
     obtain⟨b,N,m,d,since,last,e1,Z,e3,e4⟩:=V
     cases e1
     have W:=C.dF l
     rw[hl,Z]at W
     obtain⟨b2,N2,ms,T,f1,f2,cv,_⟩:=W
     have f3:=(cv.plain A).1
     cases f1
     have cx:ms=[]:=by
      have:=f3.length_eq
      simp only[p_,F_,E_]at this
      exact k_ this.symm
     subst cx
     refine⟨_,w,ρ,?_,Ext.refl _,C,by simp only[VR];exact⟨[.bool false],rfl,aU.aL.2 ⟨zB,zH⟩⟩⟩
     rcases Go.run_next_at (P:=P) w o.type r m since last #[] #[] T e4 f2 zA e3 with⟨_,E⟩|⟨x,hx,_⟩
     ·simp only[n_,b_]at y
      simp only[execOp,D,y,Sem.run_bind,E,Result.andThen_ok,Sem.run_pure]
     ·simp[leftOf]at hx
    ·exact zR
   ·rename_i l n S hi
    split at h
    ·rename_i m f Q j a hl
     have pre:∀c ρ w (e:Operand->Value),(∀x,VR ρ (ev x) (e x))->Rel c ρ H w->∃r R' b d u,ρ i=M (r,R')/\e it= .pointer (M ⟨r,0,c_⟩)/\ρ l=M (b,d)/\w.heap[r]? =M (.mapIter (M b) n S.reverse.toArray n)/\w.heap[b]? =M (.map (bT m f u).toArray m)/\VR ρ a (u j):=by
      intro c ρ w e B C
      have y:=B it
      rw[bN]at y
      simp only[VR]at y
      obtain⟨r,R',ag,y⟩:=y
      have V:=C.dF i
      rw[hi,ag]at V
      obtain⟨b,N,m',d,e1,Z,e3⟩:=V
      cases e1
      have W:=C.dF l
      rw[hl,Z]at W
      obtain⟨b2,N2,u,f1,f2,_,f4⟩:=W
      cases f1
      exact⟨_,R',_,_,u,ag,by simpa using y,Z,e3,f2,(f4 j a A).2⟩
     split at h
     ·obtain⟨h0,L⟩:=hX.bq _ _ h
      simp only[bf]at h0
      cases dE h0.1.1
      cases dE h0.1.2
      cases dE h0.2
      refine⟨.ret (.qP [.bool true,.agg (dx (f 0)),a]) (H.set i (.dX l 1 [0])),L,lY (by simp[D]) λc ρ w e B C=>?_⟩
      obtain⟨r,R',b,d,u,p1,p2,p3,p4,p5,p6⟩:=pre c ρ w e B C
      have cz:r<w.heap.size:=(Array.getElem?_eq_some_iff.1 p4).1
      rcases Go.run_next_at (P:=P) w o.type r b 1 1 #[] (bT 1 f u).toArray 1 p4 p5 (λx hx=>by
       have hx:x∈bT 1 f u:=hx
       obtain⟨k,hk,rfl⟩:=List.mem_map.1 hx
       exact List.mem_range.1 hk) (dw _)with⟨h0,_⟩|⟨x,hx,w1,c6,E⟩
      ·exact absurd h0 (by simp[leftOf,bT])
      ·simp only[leftOf,e?,m?]at hx
       obtain⟨k,hk,rfl⟩:=List.mem_map.1 hx.1
       have hk:k=0:=by have:=List.mem_range.1 hk;omega
       subst hk
       have hw:w1.heap=w.heap/\w1.os=w.os/\w1.output=w.output/\w1.tape=w.tape:=by rcases c6 with rfl|rfl<;>exact⟨rfl,rfl,rfl,rfl⟩
       refine⟨.tuple #[.bool true,iL (f 0),u 0],ChangeMaps.setBlock w1 r (.mapIter (M b) 1 (#[].push 0) 1),ρ,?_,Ext.refl _,?_,(show VR ρ (.qP [.bool true,.agg (dx (f 0)),a]) (.tuple #[.bool true,iL (f 0),u 0]) by
        simp only[VR]
        exact⟨[.bool true,iL (f 0),u 0],rfl,aU.aL.2 ⟨zB,aU.aL.2 ⟨PK _,aU.aL.2 ⟨p6,zH⟩⟩⟩⟩)⟩
       ·simp only[execOp,D,p2,Sem.run_bind,E,Result.andThen_ok,Sem.run_pure]
       ·refine C.fC _ (by rw[hi];rfl) p1 (λi b7=>?_) ?_ hw.2.1 hw.2.2.1 hw.2.2.2 ?_
        ·simp only[ChangeMaps.setBlock,hw.1]
         rw[z,if_neg (λe=>b7 e.symm)]
        ·simp only[ChangeMaps.setBlock,hw.1]
         simp
        ·refine⟨r,_,b,d,rfl,p3,?_⟩
         simp only[ChangeMaps.setBlock,hw.1]
         rw[z,if_pos A,if_pos cz]
         simp
     ·rename_i x S'
      obtain⟨h0,L⟩:=hX.bq _ _ h
      simp only[bf]at h0
      cases dE h0.1.1
      cases dE h0.1.2
      cases dE h0.2
      refine⟨.ret (.qP [.bool false]) H,L,lY (by simp[D]) λc ρ w e B C=>?_⟩
      obtain⟨r,R',b,d,u,p1,p2,p3,p4,p5,p6⟩:=pre c ρ w e B C
      refine⟨_,w,ρ,?_,Ext.refl _,C,by simp only[VR];exact⟨[.bool false],rfl,aU.aL.2 ⟨zB,zH⟩⟩⟩
      rcases Go.run_next_at (P:=P) w o.type r b 1 1 (0::S').reverse.toArray (bT 1 f u).toArray 1 p4 p5 (λx hx=>by
       have hx:x∈bT 1 f u:=hx
       obtain⟨k,hk,rfl⟩:=List.mem_map.1 hx
       exact List.mem_range.1 hk) (dw _)with⟨_,E⟩|⟨x,hx,_⟩
      ·simp only[execOp,D,p2,Sem.run_bind,E,Result.andThen_ok,Sem.run_pure]
      ·simp only[leftOf,e?,m?]at hx
       obtain⟨k,hk,rfl⟩:=List.mem_map.1 hx.1
       have hk:k=0:=by have:=List.mem_range.1 hk;omega
       subst hk
       simp at hx
    ·exact zR
   ·exact zR
  ·exact zR
 ·rename_i it D
  split at h
  ·rename_i i bN
   split at h
   ·rename_i l n j S hi
    split at h
    ·rename_i m f hl
     obtain⟨h0,L⟩:=hX.bq _ _ h
     simp only[bf]at h0
     obtain⟨U,h3⟩:=h0
     have dd:=dE U
     subst dd
     have b8:j<n:=by simpa [d_,p?]using h3
     refine⟨.ret (.qP [.int l_ (f j),.bool true]) H,L,lY (by simp[D]) λc ρ w e B C=>?_⟩
     have y:=B it
     rw[bN]at y
     simp only[VR]at y
     obtain⟨r,R',ag,y⟩:=y
     have V:=C.dF i
     rw[hi,ag]at V
     obtain⟨b,N,m,d,e1,Z,e3⟩:=V
     cases e1
     have W:=C.dF l
     rw[hl,Z]at W
     obtain⟨b2,N2,f1,f2⟩:=W
     cases f1
     have e4:w.heap[r]? =M (.mapIter (M m) n (S.reverse.toArray.push j) n):=by
      rw[e3];simp
     have E:=Go.run_entry_at (P:=P) w r m n S.reverse.toArray _ n {key:=.int l_ (f j),val:=.bool true,born:=j} e4 f2 (vB b8) (Si n f)
     refine⟨_,w,ρ,?_,Ext.refl _,C,by simp only[VR];exact⟨[.int l_ (f j),.bool true],rfl,aU.aL.2 ⟨zB,aU.aL.2 ⟨zB,zH⟩⟩⟩⟩
     simp only[n_,b_]at y
     simp only[execOp,D,y,Sem.run_bind,E,Result.andThen_ok,Sem.run_pure]
    ·rename_i m f Q x a hl
     obtain⟨h0,L⟩:=hX.bq _ _ h
     simp only[bf]at h0
     cases dE h0.1.1
     cases dE h0.2
     have b8:j<n:=by simpa [d_,p?]using h0.1.2
     refine⟨.ret (.qP [.agg (dx (f j)),a]) H,L,lY (by simp[D]) λc ρ w e B C=>?_⟩
     have y:=B it
     rw[bN]at y
     simp only[VR]at y
     obtain⟨r,R',ag,y⟩:=y
     have V:=C.dF i
     rw[hi,ag]at V
     obtain⟨b,N,m,d,e1,Z,e3⟩:=V
     cases e1
     have W:=C.dF l
     rw[hl,Z]at W
     obtain⟨b2,N2,u,f1,f2,_,f4⟩:=W
     cases f1
     have e4:w.heap[r]? =M (.mapIter (M m) n (S.reverse.toArray.push j) n):=by
      rw[e3];simp
     have E:=Go.run_entry_at (P:=P) w r m n S.reverse.toArray _ n {key:=iL (f j),val:=u j,born:=j} e4 f2 (List.mem_map.2 ⟨j,List.mem_range.2 b8,rfl⟩) (by
      have:(bT n f u).toArray.toList.map (·.born)=g_ n:=by simp[bT,c?]
      rw[this];exact List.nodup_range)
     refine⟨_,w,ρ,?_,Ext.refl _,C,(show VR ρ (.qP [.agg (dx (f j)),a]) (.tuple #[iL (f j),u j]) by
      simp only[VR]
      exact⟨[iL (f j),u j],rfl,aU.aL.2 ⟨PK _,aU.aL.2 ⟨(f4 j a A).2,zH⟩⟩⟩)⟩
     simp only[n_,b_]at y
     simp only[execOp,D,y,Sem.run_bind,E,Result.andThen_ok,Sem.run_pure]
    ·exact zR
   ·exact zR
  ·exact zR
 ·exact Pr hX hI h
end
end
section
structure St where
 t:Tr AV
 nt:Nat
 H:AH
 df:List Nat
def Sj(v:Value):AV:=match dN v with|some a=>a|none=> .any
def St.ev(G:Nat)(s:St):Operand->AV
 | .tmp i=>cR s.t i
 | .const v=>Sj v
 | .global g=>bif d_ (Lk g) G&&a_ (ux (Lk g)) g then .ptr (Lk g) 0 0 0 else .any
 | .func f=> .fn f [] []
def St.put(s:St)(d:Option Tmp)(a:AV):St :=
 match d with
 |none=>s
 |some i=>match s with
  |⟨t,nt,H,df⟩=>bif d_ i nt then⟨t.set i a,nt,H,df⟩else⟨t,nt,H,df⟩
def St.heap(s:St)(H:AH):St:=match s with
 |⟨t,nt,_,df⟩=>⟨t,nt,H,df⟩
def Gh(ρ:Env):List Nat->List Deferred->Prop
 |[],ds=>ds=[]
 |l::a,ds=> ∃b N rest,ρ l=M (b,N)/\ds={target:=.collected b,args := #[]}::rest/\Gh ρ a rest
theorem Gh.ext{ρ ρ'}(h:Ext ρ ρ'):∀{a ds},Gh ρ a ds->Gh ρ' a ds
 |[],_,k=>k
 |_::_,_,⟨b,N,rest,h1,c,d⟩=>⟨b,N,rest,h _ _ h1,c,Gh.ext h d⟩
structure cA (c:fw) (ρ:Env) (s:St) (a:Act) (w:World):Prop where
 tmp:uw ρ s.t s.nt a.tmps
 heap:Rel c ρ s.H w
 df:Gh ρ s.df a.defers
theorem cA.ev{c ρ s a w}(h:cA c ρ s a w){G}(hG:c.G=G)(x):VR ρ (s.ev G x) (a.eval x):=by
 cases x with
 |tmp i=>exact h.tmp.2 i
 |const v=>
  simp only[St.ev,Sj,Act.eval]
  split
  ·rename_i a ha;exact jZ ρ v a ha
  ·simp only[VR]
 |global g=>
  simp only[St.ev,Act.eval]
  cases b:d_ (Lk g) G&&a_ (ux (Lk g)) g with
  |true=>
   rw[bf,h_,Nat.beq_eq]at b
   obtain⟨N,d⟩:=h.heap.fp (Lk g) O
   simp only[cond_true,VR]
   exact⟨g,N,by rw[b.2]at d;exact d,zA⟩
  |false=>simp only[cond_false,VR]
 |func f=>simp only[St.ev,Act.eval,VR];exact⟨[],[],rfl,zH,zH⟩
theorem oo(t)(i j)(a):cR (t.set i a) j=if j=i then a else cR t j:=by
 unfold cR
 rw[Tr.bH]
 grind
theorem uw.set{ρ t nt vs}(h:uw ρ t nt vs){i a v}(c:VR ρ a v)(hi:i<nt):uw ρ (t.set i a) nt (vs.setIfInBounds i v):=by
 refine⟨by simpa using h.1,λj=>?_⟩
 rw[oo]
 by_cases b:j=i
 ·subst b
  have:j<vs.size:=by rw[h.1];exact hi
  simpa [this]using c
 ·rw[if_neg b]
  have:(vs.setIfInBounds i v).getD j undef=vs.getD j undef:=by
   simp only[w_,z]
   rw[if_neg (λe=>b e.symm)]
  rw[this]
  exact h.2 j
theorem cA.put{c ρ ρ' s a w w'}(h:cA c ρ s a w)(hx:Ext ρ ρ'){H'}(b:Rel c ρ' H' w'){v u}(f:VR ρ' v u)(d):cA c ρ' ((s.heap H').put d v) (a.put d u) w':=by
 cases d with
 |none=>exact⟨h.tmp.ext hx,b,h.df.ext hx⟩
 |some i=>
  simp only[St.put,Act.put,St.heap]
  cases hi:d_ i s.nt with
  |true=>
   rw[h_]at hi
   exact⟨(h.tmp.ext hx).set f hi,b,h.df.ext hx⟩
  |false=>
   have j :¬ i<s.nt:=λe=>by rw[<-h_,hi]at e;cases e
   have:a.tmps.setIfInBounds i u=a.tmps:=by
    apply e_
    simp only[Array.toList_setIfInBounds]
    exact List.set_eq_of_length_le (by rw[d?,show a.tmps.size=s.nt from h.tmp.1];grind)
   rw[this]
   exact⟨h.tmp.ext hx,b,h.df.ext hx⟩
structure KS (R:Type) where
 n:St->R
 x:Nat->St->R
 g:Nat->St->R
 r:St->R
 p:AV->St->R
inductive aQ where
 |n (s:St)
 |x (i:Nat) (s:St)
 |g (l:Nat) (s:St)
 |r (s:St)
 |p (a:AV) (s:St)
def aQ.sem{R:Type}(sem:R->Prop)(k:KS R):aQ->Prop
 | .n s=>sem (k.n s)
 | .x i s=>sem (k.x i s)
 | .g l s=>sem (k.g l s)
 | .r s=>sem (k.r s)
 | .p a s=>sem (k.p a s)
def aQ.post(e:aQ)(c:fw)(ρ:Env)(x:Exit)(a:Act)(w:World):Prop :=
 match e,x with
 | .n s,.normal=> ∃ρ',Ext ρ ρ'/\cA c ρ' s a w
 | .x i s,.exit j=>i=j/\∃ρ',Ext ρ ρ'/\cA c ρ' s a w
 | .g l s,.goto m=>l=m/\∃ρ',Ext ρ ρ'/\cA c ρ' s a w
 | .r s,.ret=> ∃ρ',Ext ρ ρ'/\cA c ρ' s a w
 | .p v s,.panic b=> ∃ρ' u,b=[{v:=u,recovered:=false}]/\Ext ρ ρ'/\cA c ρ' s a w/\VR ρ' v u
 |_,_=>False
theorem aQ.gO{e:aQ}{c ρ ρ' x a w}(hx:Ext ρ ρ')(h:e.post c ρ' x a w):e.post c ρ x a w:=by
 cases e<;>cases x<;>simp only[aQ.post]at h⊢ <;>first
  |exact h
  |(obtain⟨b,d,f⟩:=h;exact⟨b,hx.trans d,f⟩)
  |(obtain⟨i,b,d,f⟩:=h;exact⟨i,b,hx.trans d,f⟩)
  |(obtain⟨b,u,i,d,f⟩:=h;exact⟨b,u,i,hx.trans d,f⟩)
section
variable {R:Type} {X:RI R} {sem:R->Prop} (hX:X.Ok sem) {I:ba} {P:Program} (hI:I.Ok P)
def SC(X:RI R)(I:ba)(c:iQ R)(round:gZ R)(ops:Array Oper)(k:KS R):List Oper->St->R
 |[],s=>k.n s
 |o::rest,s=>
  match o.guard with
  |none=>Pq X I c round o (s.ev I.G) s.H (λa H=>SC X I c round ops k rest ((s.heap H).put o.dst a)) (λa H=>k.p a (s.heap H))
  |some (j,want)=>
   match(ops[j]?).bind (·.dst)with
   |none=>X.fail
   |some d=>
    match cR s.t d with
    | .bool b=>
     let run (s:St):=Pq X I c round o (s.ev I.G) s.H (λa H=>SC X I c round ops k rest ((s.heap H).put o.dst a)) (λa H=>k.p a (s.heap H))
     let skip (s:St):=SC X I c round ops k rest (s.put o.dst (.qP []))
     X.cond b (λ_=>(bif want then run else skip) (s.put (M d) (.bool true))) (λ_=>(bif want then skip else run) (s.put (M d) (.bool false)))
    | .qP []=>SC X I c round ops k rest (s.put o.dst (.qP []))
    |_=>X.fail
theorem oq{ro n P ops Q i rest o a w}(b:ops[i]? =M o)
  (c:Region.wanted o (yielded ops a.tmps)=true) (h:o.wpIn (WF ro) n P a w (wpOpsIn (WF ro) n P ops Q rest) Q):wpOpsIn (WF ro) n P ops Q (i::rest) a w:=by
 simp only[wpOpsIn,b,c,if_true];exact h
theorem Sk{ro n P ops Q i rest o a w}(b:ops[i]? =M o)
  (c:Region.wanted o (yielded ops a.tmps)=false) (h:wpOpsIn (WF ro) n P ops Q rest (a.put o.dst undef) w):wpOpsIn (WF ro) n P ops Q (i::rest) a w:=by
 simp only[wpOpsIn,b,c,kH,if_false];exact⟨λ_ _=>trivial,h⟩
theorem cA.lit{c ρ s a w}(h:cA c ρ s a w){d b}(i:cR s.t d= .bool b):cA c ρ (s.put (M d) (.bool b)) a w:=by
 simp only[St.put]
 cases hi:d_ d s.nt with
 |true=>
  refine⟨⟨h.tmp.1,λj=>?_⟩,h.heap,h.df⟩
  simp only[cond_true]
  rw[oo]
  by_cases f:j=d
  ·subst f;rw[if_pos A,<-i];exact h.tmp.2 j
  ·rw[if_neg f];exact h.tmp.2 j
 |false=>exact h
theorem vD{ρ}:VR ρ (.qP []) undef:=by simp only[VR];exact⟨[],rfl,zH⟩
theorem ph{o}{ops:Array Oper}{tmps}{j d:Nat}{a b}(e:o.guard=M (j,a))(f:(ops[j]?).bind (·.dst)=M d)(c:tmps.getD d undef= .bool b):
  Region.wanted o (yielded ops tmps)=(b==a):=by
 simp only[Region.wanted,e,yielded,f,f?]
 have:tmps[d]? =M (.bool b):=by
  rw[w_]at c
  cases ht:tmps[d]? with
  |none=>rw[ht]at c;simp[undef]at c
  |some x=>grind
 grind
theorem nA{o}{ops:Array Oper}{tmps}{j d:Nat}{a}(c:o.guard=M (j,a))(e:(ops[j]?).bind (·.dst)=M d)(b:tmps.getD d undef=undef):
  Region.wanted o (yielded ops tmps)=false:=by
 simp only[Region.wanted,c,yielded,e,f?]
 rw[w_]at b
 cases ht:tmps[d]? with
 |none=>rfl
 |some x=>
  rw[ht]at b
  simp at b
  subst b
  rfl
include hX hI in
theorem vR{f:iQ R}(t:gN P I sem f){round:gZ R}(m:Ke P I sem round){ops:Array Oper}{k:KS R}:∀(l:List Oper)(i:Nat)(s:St),ops.toList.drop i=l->sem (SC X I f round ops k l s)->
  ∃e:aQ,e.sem sem k/\∀ro n c ρ a w (Q:Exit->Act->World->Prop),c.G=I.G->cA c ρ s a w->(∀x a' w',e.post c ρ x a' w'->Q x a' w')->wpOpsIn (WF ro) n P ops Q (I_ i l.length) a w
 |[],i,s,_,h=>⟨.n s,h,λro n c ρ a w Q hG g hQ=>by
   simp only[F_,List.range'_zero,wpOpsIn]
   exact hQ .normal a w ⟨ρ,Ext.refl ρ,g⟩⟩
 |o::rest,i,s,hl,h=>by
  have O:ops[i]? =M o:=by
   have:(ops.toList.drop i)[0]? =M o:=by rw[hl];rfl
   rw[M_]at this
   simpa using this
  have C:ops.toList.drop (i+1)=rest:=by
   rw[<-n?,hl];rfl
  have D:I_ i (o::rest).length=i::I_ (i+1) rest.length:=by simp[List.range'_succ]
  have run:∀s:St,sem (Pq X I f round o (s.ev I.G) s.H (λa H=>SC X I f round ops k rest ((s.heap H).put o.dst a)) (λa H=>k.p a (s.heap H)))->
    ∃e:aQ,e.sem sem k/\∀ro n c ρ a w (Q:Exit->Act->World->Prop),c.G=I.G->cA c ρ s a w->Region.wanted o (yielded ops a.tmps)=true->(∀x a' w',e.post c ρ x a' w'->Q x a' w')->wpOpsIn (WF ro) n P ops Q (i::I_ (i+1) rest.length) a w:=by
   intro s h
   obtain⟨out,y,B⟩:=D3 hX hI t m h
   cases out with
   |ret v H'=>
    obtain⟨e,S,T⟩:=vR t m rest (i+1) _ C y
    refine⟨e,S,λro n c ρ a w Q hG g J hQ=>oq O J (B ro n c ρ w a _ Q hG (g.ev hG) g.heap (λU H2 u w' ρ' E hx F V=>?_) λU H2 u w' ρ' E=>by cases E)⟩
    cases E
    exact T ro n c ρ' _ w' Q hG (g.put hx F V o.dst) λx a' w' Z=>hQ x a' w' (aQ.gO hx Z)
   |qt v H'=>
    refine⟨.p v (s.heap H'),y,λro n c ρ a w Q hG g J hQ=>oq O J (B ro n c ρ w a _ Q hG (g.ev hG) g.heap (λU H2 u w' ρ' E=>by cases E) λU H2 u w' ρ' E hx F V=>?_)⟩
    cases E
    exact hQ _ _ _ ⟨ρ',u,rfl,hx,⟨g.tmp.ext hx,F,g.df.ext hx⟩,V⟩
  have skip:∀s:St,sem (SC X I f round ops k rest (s.put o.dst (.qP [])))->
    ∃e:aQ,e.sem sem k/\∀ro n c ρ a w (Q:Exit->Act->World->Prop),c.G=I.G->cA c ρ s a w->Region.wanted o (yielded ops a.tmps)=false->(∀x a' w',e.post c ρ x a' w'->Q x a' w')->wpOpsIn (WF ro) n P ops Q (i::I_ (i+1) rest.length) a w:=by
   intro s h
   obtain⟨e,S,T⟩:=vR t m rest (i+1) _ C h
   refine⟨e,S,λro n c ρ a w Q hG g J hQ=>Sk O J ?_⟩
   exact T ro n c ρ _ w Q hG (g.put (Ext.refl ρ) g.heap vD o.dst) hQ
  rw[D]
  simp only[SC]at h
  split at h
  ·rename_i L
   obtain⟨e,y,B⟩:=run s h
   exact⟨e,y,λro n c ρ a w Q hG g hQ=>B ro n c ρ a w Q hG g (by simp[Region.wanted,L]) hQ⟩
  ·rename_i j r L
   split at h
   ·exact zR
   ·rename_i d W
    split at h
    ·rename_i b N
     have hc:=hX.cond _ _ _ h
     have q:∀c ρ a w,cA c ρ s a w->Region.wanted o (yielded ops a.tmps)=(b==r):=λc ρ a w g=>ph L W (by
      have:=g.tmp.2 d
      rw[N]at this
      simpa only[VR]using this)
     have lit:∀c ρ a w,cA c ρ s a w->cA c ρ (s.put (M d) (.bool b)) a w:=λc ρ a w g=>g.lit N
     have K:(if b=true then(bif r then sem (Pq X I f round o ((s.put (M d) (.bool true)).ev I.G) (s.put (M d) (.bool true)).H (λa H=>SC X I f round ops k rest (((s.put (M d) (.bool true)).heap H).put o.dst a)) (λa H=>k.p a ((s.put (M d) (.bool true)).heap H)))else sem (SC X I f round ops k rest ((s.put (M d) (.bool true)).put o.dst (.qP []))))
       else(bif r then sem (SC X I f round ops k rest ((s.put (M d) (.bool false)).put o.dst (.qP [])))else sem (Pq X I f round o ((s.put (M d) (.bool false)).ev I.G) (s.put (M d) (.bool false)).H (λa H=>SC X I f round ops k rest (((s.put (M d) (.bool false)).heap H).put o.dst a)) (λa H=>k.p a ((s.put (M d) (.bool false)).heap H))))):=by
      cases r<;>exact hc
     cases b<;>cases r<;>simp only[if_true,kH,if_false,cond_true,cond_false]at K
     ·obtain⟨e,y,B⟩:=run _ K
      exact⟨e,y,λro n c ρ a w Q hG g hQ=>B ro n c ρ a w Q hG (lit c ρ a w g) (by rw[q c ρ a w g];rfl) hQ⟩
     ·obtain⟨e,y,B⟩:=skip _ K
      exact⟨e,y,λro n c ρ a w Q hG g hQ=>B ro n c ρ a w Q hG (lit c ρ a w g) (by rw[q c ρ a w g];rfl) hQ⟩
     ·obtain⟨e,y,B⟩:=skip _ K
      exact⟨e,y,λro n c ρ a w Q hG g hQ=>B ro n c ρ a w Q hG (lit c ρ a w g) (by rw[q c ρ a w g];rfl) hQ⟩
     ·obtain⟨e,y,B⟩:=run _ K
      exact⟨e,y,λro n c ρ a w Q hG g hQ=>B ro n c ρ a w Q hG (lit c ρ a w g) (by rw[q c ρ a w g];rfl) hQ⟩
    ·rename_i N
     obtain⟨e,y,B⟩:=skip s h
     refine⟨e,y,λro n c ρ a w Q hG g hQ=>B ro n c ρ a w Q hG g (nA L W ?_) hQ⟩
     have:=g.tmp.2 d
     rw[N]at this
     simp only[VR]at this
     obtain⟨vs,h5,Y⟩:=this
     simp only[aU]at Y
     subst Y
     exact h5
    ·exact zR
include hX hI in
theorem BB{d:iQ R}(f:gN P I sem d){round:gZ R}(b:Ke P I sem round){ops:Array Oper}{k:KS R}{s:St}(h:sem (SC X I d round ops k ops.toList s))(id:Nat):
  ∃e:aQ,e.sem sem k/\∀ro n c ρ a w,c.G=I.G->cA c ρ s a w->(Code.region id ops false).wpIn (WF ro) n P (e.post c ρ) a w:=by
 obtain⟨e,g,i⟩:=vR hX hI f b ops.toList 0 s rfl h
 refine⟨e,g,λro n c ρ a w hG j=>wpIn_region ?_⟩
 have:=i ro n c ρ a w (e.post c ρ) hG j λ_ _ _ h=>h
 rw[List.range_eq_range']
 simpa using this
end
end
end
end Go.Sx
