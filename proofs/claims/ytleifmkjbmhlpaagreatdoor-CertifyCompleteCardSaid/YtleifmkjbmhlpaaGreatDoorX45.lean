/- The proof of a statement of the seat, part 45. -/
import Derived.Test.YtleifmkjbmhlpaaGreatDoorX44
import Derived.OpenShut
import Derived.ReadAgain
import Derived.ChangeStays
import Derived.ChangeSame
import Derived.Deep.Slices
import Derived.Test.YtleifmkjbmhlpaaGreatDoorX07
import Derived.Test.YtleifmkjbmhlpaaGreatDoorX05
import Derived.Test.YtleifmkjbmhlpaaGreatDoorX03
set_option linter.all false
set_option linter.defProp false
set_option maxRecDepth 1000000
namespace Go.Sx
open Go
open List renaming length_map->M,range->a_,getD_eq_getElem?_getD->b_,getElem?_drop->e_,map_append->f_,pairwise_iff_getElem->g_,getElem?_take_of_lt->i_,map_map->k_,take_append_drop->l_,mem_cons_self->m_,getElem_range->n_,getElem_map->o_,length_take->p_,map_set->q_
open Go.IntKind renaming i64->z
open Bool renaming not_eq_true'->c_,and_true->h_
open Option renaming some->d_,none->v_
open Int renaming toNat->j_,le_refl->t_
noncomputable section
def lJ:Tree->List ao
 | .leaf x=>[x]
 | .node l r=>lJ l++lJ r
def fS:List Piece->List ao
 |[]=>[]
 |p::l=>bif decide (p.k=2)then p.x::fS l else fS l
def ry:∀a b,fS (a++b)=fS a++fS b
 |[],_=>rfl
 |p::a,b=>by
  show(bif decide (p.k=2)then p.x::fS (a++b)else fS (a++b))=(bif decide (p.k=2)then p.x::fS a else fS a)++fS b;rw[ry a b]
  grind
def qj(a b:Node):Prop := ∀j,b.lo j<=a.lo j/\a.hi j<=b.hi j
def qj.left{a x y}(h:qj a x):qj a (bc x y):=λj=>by
 obtain⟨b,c⟩:=h j;show qU (x.lo j) (y.lo j)<=_/\_<=qV (x.hi j) (y.hi j);unfold qU qV;omega
def qj.right{a x y}(h:qj a y):qj a (bc x y):=λj=>by
 obtain⟨b,c⟩:=h j;show qU (x.lo j) (y.lo j)<=_/\_<=qV (x.hi j) (y.hi j);unfold qU qV;omega
def AQ:∀(t)(x),x∈lJ t->qj (aO x) (aq t)
 | .leaf y,x,h=>by
  have:x=y:=by simpa [lJ]using h
  rw[this];exactλj=>⟨t_ _,t_ _⟩
 | .node l r,x,h=>by
  rcases List.mem_append.1 h with h|h
  ·exact(AQ l x h).left
  ·exact(AQ r x h).right
def AR{ex}(c:∀a b,qj a b->ex b=true->ex a=true):∀t,fS (aR ex t)=(lJ t).filter λx=>!ex (aO x)
 | .leaf x=>by
  unfold aR lJ;cases h:ex (aO x)with
  |true=>simp[h,fS,jD]
  |false=>simp[h,fS,wF]
 | .node l r=>by
  unfold aR;cases h:ex (bc (aq l) (aq r))with
  |true=>
   show fS [jD _]=_;have:(lJ (.node l r)).filter (λx=>!ex (aO x))=[]:=List.filter_eq_nil_iff.2 λx hx=>by rw[c _ _ (AQ (.node l r) x hx) h];simp
   rw[this];rfl
  |false=>show fS (dj::(aR ex l++aR ex r))=(lJ l++lJ r).filter _;rw[List.filter_append,<-AR c l,<-AR c r,<-ry];rfl
def Wy{q}(e:fx q=true)(a b)(g:qj a b)(h:iL q.nw q.C (cD b.lo b.hi)=true):iL q.nw q.C (cD a.lo a.hi)=true:=by
 obtain⟨j,d,c⟩:=List.any_eq_true.1 h;refine List.any_eq_true.2 ⟨j,d,?_⟩;obtain⟨n,_⟩:=(gM e).2 j (List.mem_range.1 d);unfold FR zn at c⊢;simp only[c_,je]at c⊢;have i:∃k,dn (cD a.lo a.hi) (j_ (q.C j 0-1)*1+0)=a.lo k/\dn (cD a.lo a.hi) (j_ (q.C j 0-1)*1+8)=a.hi k/\dn (cD b.lo b.hi) (j_ (q.C j 0-1)*1+0)=b.lo k/\dn (cD b.lo b.hi) (j_ (q.C j 0-1)*1+8)=b.hi k:=by
  generalize q.C j 0=f at*;have:f=1∨f=2∨f=3∨f=4∨f=5∨f=6∨f=7∨f=8:=O;rcases this with rfl|rfl|rfl|rfl|rfl|rfl|rfl|rfl
  ·exact⟨0,rfl,rfl,rfl,rfl⟩
  ·exact⟨1,rfl,rfl,rfl,rfl⟩
  ·exact⟨2,rfl,rfl,rfl,rfl⟩
  ·exact⟨3,rfl,rfl,rfl,rfl⟩
  ·exact⟨4,rfl,rfl,rfl,rfl⟩
  ·exact⟨5,rfl,rfl,rfl,rfl⟩
  ·exact⟨6,rfl,rfl,rfl,rfl⟩
  ·exact⟨7,rfl,rfl,rfl,rfl⟩
 obtain⟨k,k1,k2,l,m⟩:=i;rw[l,m]at c;rw[k1,k2];obtain⟨o,p⟩:=g k;omega
def rz:∀(d n)(F),cq d n=true->lJ (bp d n F)=(a_ n).map F
 |0,n,F,h=>by simp only[cq,ba]at h;have a:=fT h.1;have b:=fT h.2;omega
 |d+1,n,F,h=>by
  simp only[cq,ba]at h;have a:=fT h.1;have b:=fT h.2;unfold bp;cases c:Nat.ble n 1 with
  |true=>have:=fT c;have:n=1:=O;subst this;rfl
  |false=>
   have g:2<=n:=by
    refine Nat.lt_of_not_le λf=>?_
    rw[il f]at c;cases c
   have l:=mX g;have hl:=r7 (d:=d) g O;have j:cq d (bP n)=true:=by simp only[cq,ba];exact(by simp_all)
   have k:cq d (n-bP n)=true:=by simp only[cq,ba];exact⟨il O,il O⟩
   show lJ (bp d (bP n) F)++lJ (bp d (n-bP n) λi=>F (bP n+i))=_;rw[rz d _ _ j,rz d _ _ k];have e:n=bP n+(n-bP n):=O
   conv=>rhs;rw[e,List.range_add,f_,k_]
   rfl
def xj(x:bu):bu:={x with T:=λ_=>0}
def qk(gs)(i):aG (gs.map xj) i=xj (aG gs i):=by
 unfold aG;rw[b_,b_,List.getElem?_map];cases gs[i]? with
 |none=>rfl
 |some x=>rfl
def GV{g n R R'}(h:∀i,gd (R i)=gd (R' i)):n9 g n R=n9 g n R':=by
 unfold n9;have:(λx y=>!decide (ca (gd (R y)) (gd (R x)) g 0<0))=λx y=>!decide (ca (gd (R' y)) (gd (R' x)) g 0<0):=by funext x y;rw[h x,h y]
 rw[this]
def Wz(q)(gs)(i):xi q (gs.map xj) i=xj (xi q gs i):=by
 unfold xi;rw[qk,M,GV (R:=jg q.ng (gs.map xj)) (R':=jg q.ng gs) λj=>by show a8 (ah (aG (gs.map xj) j).W)=a8 (ah (aG gs j).W);rw[qk];rfl]
def TL(q:Query)(gs:List bu):Nat:=xf q gs.length (tF q (xi q gs))
def TM(q:Query)(gs:List bu)(j:Nat):Nat->Int:=mi (xi q gs) (lk q gs.length (tF q (xi q gs)) j)
def TN(q:Query)(gs:List bu)(j:Nat):Nat->List UInt8:=lI q (xi q gs) (lk q gs.length (tF q (xi q gs)) j)
def Lt(q)(gs):TL q (gs.map xj)=TL q gs/\TM q (gs.map xj)=TM q gs/\TN q (gs.map xj)=TN q gs:=by
 have e:xi q (gs.map xj)=λi=>xj (xi q gs i):=funext λi=>Wz q gs i
 have b:mi (xi q (gs.map xj))=mi (xi q gs):=by rw[e];rfl
 have c:lI q (xi q (gs.map xj))=lI q (xi q gs):=by rw[e];funext i k;unfold lI;rfl
 have a:tF q (xi q (gs.map xj))=tF q (xi q gs):=by unfold tF;rw[b,c]
 refine⟨?_,?_,?_⟩
 ·unfold TL;rw[a,M]
 ·unfold TM;rw[b,a,M]
 ·unfold TN;rw[c,a,M]
def WA(q:Query)(gs:List bu)(x:ao):List bu:=bif gn q x then(lH q gs 0 x).map xj else gs
def TO(q)(gs)(i)(x):(lH q gs i x).map xj=WA q (gs.map xj) x:=by
 unfold WA lH;cases gn q x with
 |false=>rfl
 |true=>
  simp only[cond_true];have e:(λj=>(aG (gs.map xj) j).key)=λj=>(aG gs j).key:=funext λj=>by rw[qk];rfl
  rw[e,M];cases lL gs.length (λj=>(aG gs j).key) (Gy q x)with
  |none=>simp[f_,xj]
  |some j=>have a:xj ∘ xj=xj:=rfl;dsimp only;rw[q_,q_,k_,a,qk];rfl
def v8(q)(F):∀k,(bI q F k).map xj=((a_ k).map F).foldl (WA q) []
 |0=>rfl
 |k+1=>by rw[List.range_succ,f_,List.foldl_append,<-v8 q F k];exact TO q _ _ _
def fold_filter{q p}:∀(l:List ao)(gs),(∀x,x∈l->p x=false->gn q x=false)->(l.filter p).foldl (WA q) gs=l.foldl (WA q) gs
 |[],_,_=>rfl
 |x::l,gs,h=>by
  have a:=λgs=>fold_filter (q:=q) (p:=p) l gs λy b=>h y (List.mem_cons_of_mem _ b)
  cases hp:p x with
  |true=>rw[List.filter_cons_of_pos hp];exact a _
  |false=>
   rw[List.filter_cons_of_neg (by rw[hp];simp),a];have:WA q gs x=gs:=by unfold WA;rw[h x (m_ ..) hp];rfl
   show _=l.foldl (WA q) (WA q gs x);rw[this]
def TP(l):(a_ l.length).map (bm l)=l:=by
 refine List.ext_getElem zA λi b a=>?_
 simp only[o_,n_];unfold bm;rw[b_,oa a];rfl
def Ed(ex):∀t,jV ex t=fS (aR ex t)
 | .leaf x=>by unfold jV aR;cases ex (aO x)<;>rfl
 | .node l r=>by
  unfold jV aR;cases ex (bc (aq l) (aq r))with
  |true=>rfl
  |false=>show jV ex l++jV ex r=fS (dj::(aR ex l++aR ex r));rw[Ed ex l,Ed ex r,<-ry];rfl
def iA(q:Query)(n:Nat)(F:Nat->ao):List ao:=bif Nat.beq n 0 then []else jV (fV q.nw (aF (av q.C))) (bp 20 n F)
def GW{q n F}(d:fx q=true)(h:dY n F=true):iA q n F=((a_ n).map F).filter λx=>!aaI q x:=by
 unfold dY at h;unfold iA;cases c:Nat.beq n 0 with
 |true=>rw[dV c];rfl
 |false=>rw[c]at h;simp only[Bool.false_or,ba]at h;rw[cond_false,Ed,AR (ex:=fV q.nw (aF (av q.C))) (λa b e h=>Wy (q:=q) d a b e h),rz 20 _ _ h.2.1.1];rfl
def JP{q n F}(a:fx q=true)(h:dY n F=true):(bI q (bm (iA q n F)) (iA q n F).length).map xj=(bI q F n).map xj:=by
 rw[v8,v8,TP,GW a h];refine fold_filter _ _ λx hx b=>?_
 obtain⟨i,hi,rfl⟩:=List.mem_map.1 hx;unfold dY at h;simp only[ba]at h;have c:=nC h.1 i (List.mem_range.1 hi);refine Jr a (mj c).1.2.1 ?_;simpa [aaI]using b
def TQ{q n F}(b:fx q=true)(h:dY n F=true):
  v7 q (iA q n F).length (bm (iA q n F))=v7 q n F/\Bi q (iA q n F).length (bm (iA q n F))=Bi q n F/\Bj q (iA q n F).length (bm (iA q n F))=Bj q n F:=by
 have e:=JP b h;obtain⟨a1,a2,a⟩:=Lt q (bI q (bm (iA q n F)) (iA q n F).length);obtain⟨c,d,f⟩:=Lt q (bI q F n);rw[e]at a1 a2 a;exact⟨a1.symm.trans c,a2.symm.trans d,a.symm.trans f⟩
def xk(x y:ao):Prop:=x.t<y.t∨(x.t=y.t/\x.s<y.s)
def wa(x y):jh x y<0↔xk x y:=by
 unfold jh xk XM ud;omega
def TR{n}{F:Nat->ao}(h:∀k,k+1<n->xk (F k) (F (k+1))):∀d i,i+d+1<n->xk (F i) (F (i+d+1))
 |0,i,hi=>h i hi
 |d+1,i,hi=>by have a:=TR h d i O;have b:=h (i+d+1) hi;rw[show i+(d+1)+1=i+d+1+1 by omega];unfold xk at a b⊢;omega
def GX{n F}(h:bT n F=true):∀k,k+1<n->xk (F k) (F (k+1)):=λk a=>by
 unfold bT at h;simp only[ba]at h;have:=List.all_eq_true.1 h.1.1 (k+1) (List.mem_range.2 a);rw[By]at this;simp only[ba,c_,je]at this;exact(wa _ _).1 O
def GY{n F}(h:bT n F=true):((a_ n).map F).Pairwise xk:=by
 rw[g_];intro i j hi a b;simp only[M,List.length_range]at hi a;simp only[o_,n_];have:=TR (GX h) (j-i-1) i O
 grind
def Ee{l i}(h):bm l i=l[i]:=by
 unfold bm
 grind
def Cx{F}:∀k,(∀j,j+1<=k->xk (F j) (F (j+1)))->fm F k=true
 |0,_=>rfl
 |k+1,h=>by show(!decide (jh (F (k+1)) (F k)<0)&&fm F k)=true;rw[Cx k λj a=>h j O,h_,c_,je,wa];have:=h k (dP _);unfold xk at this⊢;omega
def GZ{l}(e:∀x,x∈l->bE x=true)(d:l.Pairwise xk)(h3:l.length<=400):bT l.length (bm l)=true:=by
 rw[g_]at d;have b:∀k,k+1<l.length->xk (bm l k) (bm l (k+1)):=λk a=>by
  rw[Ee a,Ee O]
  grind
 unfold bT;rw[bK h3,Cx _ λj f=>b j O,h_,h_];refine List.all_eq_true.2 λk a=>?_
 have a:=List.mem_range.1 a;have c:bE (bm l k)=true:=by rw[Ee a];exact Y
 cases k with
 |zero=>unfold tk;rw[c];rfl
 |succ k=>rw[By,c,Bool.true_and,c_,je];have:=(wa _ _).2 (b k a);omega
def Cy{q:Query}{n:Nat}{F:Nat->ao}(b:fx q=true)(h:dY n F=true):(∀x,x∈iA q n F->bE x=true)/\(iA q n F).Pairwise xk/\(iA q n F).length<=n:=by
 have a:=h;unfold dY at a;simp only[ba]at a;rw[GW b h];refine⟨λx hx=>?_,(GY a.1).filter _,?_⟩
 ·obtain⟨i,hi,rfl⟩:=List.mem_map.1 (List.mem_filter.1 hx).1;exact nC a.1 i (List.mem_range.1 hi)
 grind
def Ef{q n F}(d:fx q=true)(h:dY n F=true):bT (iA q n F).length (bm (iA q n F))=true:=by
 obtain⟨a,b,c⟩:=Cy d h;unfold dY at h;simp only[ba]at h;have:=nD h.1;exact GZ a b O
section
open Go.ChangeShapes Go.WideShapes Go.Deep
def WB(m:Nat)(X:Nat->Nat->Int)(j:Nat):List AV:=(a_ m).map λk=> .int z (X j k)
def G1(ρ:Env)(W:World):Prop := ∀b cs el a,W.heap[b]? =d_ (.cells cs el a)->ρ.fz b=d_ cs.toList
section
variable {H:Type} {enc:TypeId×Value->H} {P:Program} {W:World} {sp:Nat->Bool} {held:Bool}
theorem Eg{a}(h:(Lit.int z a).wf=true):aJ z a=true:=by
 unfold aJ;rw[Pd,Pd];exact h
theorem Cz{ρ}:∀{m us}{x:Nat->Int},us.length=m->(∀k,k<m->us[k]? =d_ (.int z (x k)))->aV ρ ((a_ m).map λk=> .int z (x k)) us
 |0,us,x,hl,_=>by have:us=[]:=Y;subst this;exact A
 |m+1,us,x,hl,h=>by
  match us,hl,h with
  |u::us,hl,h=>
   have a:=h 0 O;simp only[List.getElem?_cons_zero,gO]at a;rw[List.range_succ_eq_map,List.map_cons,k_];refine⟨u,us,rfl,a,Cz (m:=m) (x:=λk=>x (k+1)) (by simpa using hl) λk b=>?_⟩
   grind
theorem CA{ρ:Env}(F:G1 ρ W){t e i m:Nat}{fuel:Nat}{v:Value}{x:DataW H×List MemPlace}(ht:P.underlying t=d_ (.slice e))(V:P.underlying e=d_ (.array m i))(hi:P.underlying i=d_ (.int z))(Y:P.cellsOf i=1)(Z:P.cellsOf e=m)(hm:0<m)
  (h:DataW.trod enc P W 0 sp held fuel t [v]=d_ x):∃(n:Nat)(X:Nat->Nat->Int),VR ρ (.ae n m (WB m X)) v/\∀j,j<n->∀k,k<m->aJ z (X j k)=true:=by
 rcases open_slice ht h with⟨h0,_⟩|⟨a,len,cap,mm,nn,D,Pl,hv,_,hl,_,G,_,hx⟩
 ·cases h0;refine⟨0,λ_ _=>0,?_,O⟩;simp[VR]
 ·cases hv;have aa:len<=mm:=by rw[G];split<;>omega
  rw[Z]at hx;by_cases w:len=0
  ·subst w;refine⟨0,λ_ _=>0,?_,O⟩;simp only[VR];simp
  ·have cells:∀j k,j<len->k<m->∃c,W.cell? (a.add (j*m+k))=d_ (.int z c)/\aJ z c=true:=by
    intro j k f d;obtain⟨I,E,J⟩:=hx j O;obtain⟨_,g,hc⟩:=World.cells?_some E;obtain⟨xs,m',_,_,_,_,K⟩:=DataW.trod_array V J;have p:=K k d;rw[Y,Nat.mul_one]at p;have L:k<xs.length:=O;rw[oa L]at p;obtain⟨c,N,_,Q⟩:=DataW.trod_int hi p;have R:I[k]? =d_ (.int z c):=by have:=congrArg (·[0]?) N;simpa [List.getElem?_take,e_]using this
    refine⟨c,?_,Eg Q⟩;rw[<-add_add,hc k d];exact R
   let X:Nat->Nat->Int:=λj k=>match W.cell? (a.add (j*m+k))with|some (.int z c)=>c|_=>0
   have hX:∀j k,j<len->k<m->W.cell? (a.add (j*m+k))=d_ (.int z (X j k))/\aJ z (X j k)=true:=by
    intro j k f d;obtain⟨c,E,J⟩:=cells j k f d;have:X j k=c:=by simp only[X];rw[E]
    rw[this];exact⟨E,J⟩
   have o:=(hX 0 0 O hm).1;have ea:a.add (0*m+0)=a:=by simp[Addr.add]
   rw[ea]at o;obtain⟨b,off,y⟩:=a;have q:y=v_/\∃cs el S,W.heap[b]? =d_ (.cells cs el S):=by
    unfold World.cell? at o;split at o
    ·simp_all
    ·cases o
   obtain⟨rfl,cs,el,S,U⟩:=q;have r:∀j k,j<len->k<m->cs.toList[off+(j*m+k)]? =d_ (.int z (X j k)):=by
    intro j k f d;have:=(hX j k f d).1;have e1:(Addr.mk b off v_).add (j*m+k)=⟨b,off+(j*m+k),v_⟩:=by
     unfold Addr.add;by_cases w:j*m+k=0
     ·rw[if_pos w,w];rfl
     ·rw[if_neg w]
    rw[e1]at this;simp only[World.cell?,U,Option.isSome_none,lu,if_false]at this;simpa using this
   have s:off+len*m<=cs.toList.length:=by
    have:=(List.getElem?_eq_some_iff.1 (r (len-1) (m-1) O O)).1;have e2:(len-1)*m+m=len*m:=by obtain⟨l,rfl⟩:∃l,len=l+1:=⟨len-1,O⟩;rw[Nat.add_sub_cancel,Nat.succ_mul]
    omega
   refine⟨len,X,?_,λj f k d=>(hX j k f d).2⟩;simp only[VR];refine .inr ⟨b,off,cap,⟨b,off,v_⟩,λj=>(cs.toList.drop (off+j*m)).take m,rfl,hl,λ_=>⟨rfl,⟨?_,cs.toList.take off,cs.toList.drop (off+len*m),by rw[p_];omega,?_⟩,λj f=>?_⟩⟩
   ·intro u T;obtain⟨j,f,T⟩:=List.mem_flatMap.1 T;have f:=List.mem_range.1 f;obtain⟨k,d⟩:=List.mem_iff_getElem?.1 T;have C:k<m:=by
     have:=(List.getElem?_eq_some_iff.1 d).1;simp at this;omega
    rw[i_ C,e_,Nat.add_assoc,r j k f C]at d;cases d;rfl
   ·rw[F b cs el S U,ua s,<-List.drop_drop];rw[List.append_assoc,l_,l_]
   ·have g:((cs.toList.drop (off+j*m)).take m).length=m:=by
     have:j*m+m<=len*m:=by have:=Nat.mul_le_mul_right m (show j+1<=len from f);rw[Nat.succ_mul]at this;exact this
     simp only[p_,List.length_drop];omega
    refine⟨g,Cz g λk d=>?_⟩;rw[i_ d,e_,Nat.add_assoc];exact r j k f d
theorem CB{d a T}(K:Kids P T)(f:∀{t e},T t->P.underlying t=d_ (.slice e)->0<P.cellsOf e):∀{c vs ds b},(∀t∈c,T t)->
  DataW.TrodAll enc P W 0 (λ_=>true) true c vs ds b->(∀p∈b,W.sameAt d p)->(∀p∈b,a p.block=true)->DataW.TrodAll enc P d 0 a true c vs ds b
 |[],[],[],_,_,h,_,_=>h
 |_::_,_::_,_::_,_,i,⟨p,q,⟨n,h1⟩,g,e⟩,j,k=>⟨p,q,⟨n,DataW.trod_stays K f (λh=>zE) Y h1 (by simp_all) (by simp_all)⟩,CB K f Y g (by simp_all) (by simp_all),e⟩
def mq(W a:World):Prop:=a.os=W.os/\a.output=W.output/\∀i,i<W.heap.size->a.heap[i]? =W.heap[i]?
theorem mq.but{a}(h:mq W a)(may):W.keptBut a may:=by
 refine⟨h.1,h.2.1,λi hi=>?_⟩;rw[h.2.2 i hi]
 grind
theorem mq.same{a}(h:mq W a){p}(c:p.block<W.heap.size):W.sameAt a p:=by
 cases p with
 |cell b off=>show a.cell? _=W.cell? _;unfold World.cell?;rw[h.2.2 b c]
 |map b=>exact h.2.2 b c
theorem mq.frozen{a}(h:mq W a){b off}(c:b<W.heap.size):a.frozen? ⟨b,off,v_⟩=W.frozen? ⟨b,off,v_⟩:=by
 unfold World.frozen?;rw[h.2.2 b c]
theorem OL{i:World}{f:Func}{s:ChangeSpec}{apart fresh a h:Bool}{args:Array Value}{v:Value}{ds gs:List (DataW H)}{before:List MemPlace}{T:TypeId->Prop}(K:Kids P T)(G:∀{t e:TypeId},T t->P.underlying t=d_ (.slice e)->0<P.cellsOf e)(I:∀t∈f.params.toList,T t)
  (c:s.vars=[]) (q:DataW.Whole enc P f.params.toList s.vars apart W args.toList ds gs before) (u:mq W i)
  (g:∀(b:Nat)(sp:Nat->Bool)(J:Bool),DataW.TrodAll enc P i b sp J f.resultTypes.toList (v.resultList f.resultTypes.size) (s.fn H (ds++gs)).results [])
  (w:(s.fn H (ds++gs)).args=ds) (x:(s.fn H (ds++gs)).vars=gs)
  (y:∀(j:Nat)(t:TypeId)(r:Value),f.resultTypes[j]? =d_ t->(v.resultList f.resultTypes.size)[j]? =d_ r->Value.okWide P i .any 0 t r):
  s.post enc P f apart fresh a h W args v i:=by
 have k:=q.lt;have C:=q;obtain⟨N,O,hA,F,l,D,Q⟩:=q;rw[c]at F;obtain⟨rfl,rfl⟩:=trodVars_none F;rw[List.append_nil]at l;subst l;have d:∀sp:Nat->Bool,(∀p∈before,sp p.block=true)->DataW.TrodAll enc P i 0 sp true f.params.toList args.toList (s.fn H (ds++[])).args before:=λsp L=>by rw[w];exact CB K G I hA (λp E=>u.same (k p E)) L
 have m:∀sp:Nat->Bool,DataW.TrodVars enc P i sp s.vars (s.fn H (ds++[])).vars []:=λsp=>by rw[c,x];exact A
 have n:∀p∈before,(λb=>decide (b<W.heap.size)) p.block=true:=by simp_all
 refine⟨ds,[],before,[],before,[],C,g _ _ _,d _ n,m _,u.but _,λ_=>?_⟩;refine⟨y,_,_,([]++before)++[],⟨[]++before,[],trodAll_append (d _ (λ_ _=>rfl)) (g _ _ _),m _,rfl,?_,?_⟩,?_⟩
 ·intro b off E;have o:MemPlace.cell b off∈before:=by simpa using E
  rw[u.frozen (b:=b) (off:=off) (k _ o)];exact D b off o
 all_goals grind
end
end
def Lu{a b}:∀{l j i v},Instr.findNow a b l j=d_ (d_ (i,v))->∃x∈l,Instr.sameNow a b x.key=d_ true/\v=x.val
 |[],_,_,_,h=>by simp[Instr.findNow]at h
 |x::l,j,i,v,h=>by
  unfold Instr.findNow at h;split at h
  grind
  ·obtain⟨y,c,d,h3⟩:=Lu h
   grind
  ·cases h
def WC{a b n}(h:Instr.sameNow a b (.int z n)=d_ true):∃q,a= .int q/\b= .int z n:=by
 cases a<;>cases b<;>simp[Instr.sameNow]at h
 grind
def CC{q:IntKind}{n:Int}{u:Value}:∀{l:List MapEntry}(_:∀x∈l,∃m,x.key= .int z m)(_:∀x∈l,x.key= .int z n->x.val=u)(j:Nat)(_:∃x∈l,x.key= .int z n),∃i,Instr.findNow (.int q) (.int z n) l j=d_ (d_ (i,u))
 |[],_,_,_,h=>Y
 |x::l,h1,b,j,h3=>by
  obtain⟨m,a⟩:=h1 x m_;unfold Instr.findNow;by_cases e:n=m
  ·subst e;rw[a];simp only[Instr.sameNow,if_true,beq_self_eq_true];simp_all
  ·rw[a];have:(n==m)=false:=by simpa using e
   simp only[Instr.sameNow,if_true,this];refine CC (by simp_all) (by simp_all) (j+1) ?_
   grind
def JQ{a ms}(b:∀x∈a,x∈ms)(c:∀x∈ms,∃n,x.key= .int z n)(j:∀x∈ms,∀y∈ms,x.key=y.key->x.val=y.val):u4 a ms:=by
 intro k l i v h;obtain⟨x,f,d,rfl⟩:=Lu h;obtain⟨n,g⟩:=c x (b x f);rw[g]at d;obtain⟨q,rfl,rfl⟩:=WC d;exact CC c (λy m e=>Y) 0 Y
def TS{ms}{V:Nat->Value}(j:∀x∈ms,∃i,i<5/\x.key= .int z ((i:Int)+1)/\x.val=V i)(b:∀i:Nat,i<5->∃x∈ms,x.key= .int z ((i:Int)+1)):
  ∃a,a.map (·.key)=[.int z 1,.int z 2,.int z 3,.int z 4,.int z 5]/\a.map (·.val)=[V 0,V 1,V 2,V 3,V 4]/\u4 a ms:=by
 have val:∀i:Nat,i<5->∀x∈ms,x.key= .int z ((i:Int)+1)->x.val=V i:=Y;obtain⟨c,k,l⟩:=b 0 O;obtain⟨d,m,k1⟩:=b 1 O;obtain⟨f,n,k2⟩:=b 2 O;obtain⟨g,o,p⟩:=b 3 O;obtain⟨h,q,r⟩:=b 4 O;refine⟨[c,d,f,g,h],?_,?_,JQ (λx hx=>?_) (λx hx=>?_) λx hx y s e=>?_⟩
 all_goals grind
end
end Go.Sx
