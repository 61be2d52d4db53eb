/- The proof of a statement of the seat, part 6. -/
import Derived.Test.YtleifmkjbmhlpaaGreatDoorX05
set_option linter.all false
set_option linter.defProp false
set_option maxRecDepth 1000000
namespace Go.Sx
open Go
open _root_.Array renaming getD_eq_getD_getElem?->M,getElem?_eq_getElem->z,getElem?_setIfInBounds->a_,getElem?_toList->d_,replicate->f_,getElem?_push->h_,getElem?_replicate->j_,getElem?_eq_none->v_,ext'->D_
open Classical renaming byContradiction->b_
open Option renaming some->c_,none->B_
open Bool renaming eq_false_iff->e_
open List renaming mem_cons_of_mem->g_,mem_cons_self->l_,range->t_,getElem?_cons_zero->u_,mem_iff_getElem?->y_,getElem?_eq_none->z_,map_congr_left->A_
open Nat renaming strongRecOn->i_,blt_eq->m_,lt_of_lt_of_le->n_,lt_or_ge->o_,le_of_not_lt->q_,lt_of_not_le->r_,blt->s_,zero_add->w_,lt_trichotomy->C_,zero_le->E_,beq->H_
open AH renaming get_set_same->k_,bk->F_,aL->G_
open AV renaming bx->p_
noncomputable section
section
theorem PM.Kc{p:PM}(hl:p.l.length=p.n)(m){j}(a:j<p.n):({n:=p.n+1,l:=m::p.l}:PM).at j=p.at j:=by
 simp only[PM.at]
 grind
theorem PM.Xt(p:PM)(m):({n:=p.n+1,l:=m::p.l}:PM).at p.n=m:=by
 simp[PM.at]
theorem PM.Kd:∀(os)(p),p.l.length=p.n->(PM.of os p).l.length=(PM.of os p).n/\(PM.of os p).n=p.n+os.length/\(∀j,j<p.n->(PM.of os p).at j=p.at j)/\
  ∀t o,os[t]? =c_ o->∃q,(∀i,i<p.n+t->q.at i=(PM.of os p).at i)/\(PM.of os p).at (p.n+t)=tY q o.after.toList
 |[],p,h=>⟨h,rfl,λ_ _=>rfl,zA⟩
 |o::os,p,h=>by
  simp only[PM.of,LR];have b:=PM.Kd os {n:=p.n+1,l:=tY p o.after.toList::p.l} (by simp[h]);obtain⟨c,d,a,m⟩:=b;refine⟨c,by rw[d];simp;omega,λj f=>?_,λt s e=>?_⟩
  ·rw[a j zJ];exact PM.Kc h _ f
  ·cases t with
   |zero=>
    simp only[u_,gO]at e;subst e;refine⟨p,λi hi=>?_,?_⟩
    ·rw[a i zJ];exact(PM.Kc h _ O).symm
    ·rw[a (p.n+0) zA];exact PM.Xt p _
   |succ t=>
    grind
theorem C3{p i}:∀{a},(tY p a).testBit i=true->∃e∈a,Region.binds .any e=true/\(i=e.on∨(p.at e.on).testBit i=true):=by
 intro a;have key:∀(a:List Edge)(s:Nat),(a.foldl (λs e=>bif Region.binds .any e then s ||| 2^e.on ||| p.at e.on else s) s).testBit i=true->s.testBit i=true∨∃e∈a,Region.binds .any e=true/\(i=e.on∨(p.at e.on).testBit i=true):=by
  intro a
  induction a with
  |nil=>simp
  |cons e a b=>
   grind
 intro h;rcases key a 0 h with h|h
 all_goals grind
def bA(ops:Array Oper):PM:=PM.of ops.toList {n:=0,l:=[]}
section
variable {I:bg} {ops:Array Oper} (hplan:iG I ops (bA ops)=true)
include hplan
theorem jP{j o}(c:ops[j]? =c_ o){e}(a:e∈o.after)(d:Region.binds .any e=true):e.on<j:=by
 simp only[iG,ba]at hplan;have b:=List.all_eq_true.1 hplan.1 (o,j) Y;have f:=List.all_eq_true.1 b e (by simpa using a);simp_all
theorem EB{i j}(d:j<ops.size)(h:(bA ops).pre i j=true):∃o e,ops[j]? =c_ o/\e∈o.after/\Region.binds .any e=true/\(i=e.on∨(bA ops).pre i e.on=true):=by
 have b:ops[j]? =c_ ops[j]:=z d;obtain⟨_,_,_,h4⟩:=PM.Kd ops.toList {n:=0,l:=[]} rfl;obtain⟨q,k1,k2⟩:=h4 j ops[j] zA;simp only[w_]at k1 k2;unfold PM.pre bA at h;rw[k2]at h;obtain⟨e,f,c,g⟩:=C3 h;have a:e∈ops[j].after:=by simpa using f
 refine⟨ops[j],e,b,a,c,g.imp id λk=>?_⟩;unfold PM.pre bA;rw[<-k1 e.on (jP hplan b a c)];exact k
theorem xu:∀{j i},j<ops.size->(bA ops).pre i j=true->i<j:=by
 intro j
 induction j using i_ with
 |_ j g=>
  intro i a h;obtain⟨o,e,b,c,d,k⟩:=EB hplan a h;have f:=jP hplan b c d
  grind
theorem oG{x y a b}(hx:ops[x]? =c_ a)(f:ops[y]? =c_ b)(c:y<x):
  ((iw I a=true/\iw I b=true)∨(∃d,b.dst=c_ d/\d∈iu ops a)∨(∃d,a.dst=c_ d/\d∈iu ops b))->(bA ops).pre y x=true:=by
 simp only[iG,ba]at hplan;have e:=List.all_eq_true.1 hplan.2 (a,x) Y;have g:=List.all_eq_true.1 e (b,y) Y;have h:s_ y x=true:=by rw[m_];exact c
 grind
theorem kZ{listed:Nat->Prop}(l:∀j o,ops[j]? =c_ o->listed j->∀e∈o.after,Region.binds .any e=true->listed e.on):
  ∀{j o},ops[j]? =c_ o->(∀e∈o.after,Region.binds .any e=true->listed e.on)->∀i,(bA ops).pre i j=true->listed i:=by
 intro j
 induction j using i_ with
 |_ j m=>
  intro o b c i h;have d:=(Array.getElem?_eq_some_iff.1 b).1;obtain⟨n,e,a,f,g,p⟩:=EB hplan d h;rw[b]at a;cases a;have k:=jP hplan b f g
  grind
end
def Hid(p:PM)(n0 i:Nat)(al:List Nat)(l:Nat):Prop := ∃a∈al,p.pre a i=false/\l=n0+a
theorem tZ{p n0 i H}:∀{al},(iH p n0 i al H).n=H.n
 |[]=>rfl
 |a::as=>by
  simp only[iH];cases p.pre a i with
  |true=>exact tZ
  |false=>exact tZ
theorem kI{p n0 i H}:∀{al}(l),(Hid p n0 i al l->(iH p n0 i al H).get l= .dead)/\(¬ Hid p n0 i al l->(iH p n0 i al H).get l=H.get l)
 |[],l=>⟨λh=>(by obtain⟨_,h,_⟩:=h;cases h),λ_=>rfl⟩
 |a::as,l=>by
  have e:=kI (p:=p) (n0:=n0) (i:=i) (H:=H) (al:=as) l;simp only[iH];cases hp:p.pre a i with
  |true=>
   simp only[cond_true];have:Hid p n0 i (a::as) l↔Hid p n0 i as l:=by
    constructor
    ·rintro⟨b,c,h1,d⟩
     rcases List.mem_cons.1 c with rfl|c
     grind
     ·exact⟨b,c,h1,d⟩
    ·rintro⟨b,c,h⟩
     exact⟨b,g_ _ c,h⟩
   grind
  |false=>
   simp only[cond_false,F_];by_cases hl:l=n0+a
   ·rw[if_pos hl];exact⟨λ_=>rfl,λh=>absurd ⟨a,l_,hp,hl⟩ h⟩
   ·rw[if_neg hl];have:Hid p n0 i (a::as) l↔Hid p n0 i as l:=by
     constructor
     ·rintro⟨b,c,h1,d⟩
      rcases List.mem_cons.1 c with rfl|c
      ·exact absurd d hl
      ·exact⟨b,c,h1,d⟩
     ·rintro⟨b,c,h⟩
      exact⟨b,g_ _ c,h⟩
    grind
theorem jH{p n0 i H H'}:∀{al},(fH p n0 i H al H').n=H'.n
 |[]=>rfl
 |a::as=>by
  simp only[fH];cases p.pre a i with
  |true=>exact jH
  |false=>exact jH
theorem cu{p n0 i H H'}:∀{al}(l),(Hid p n0 i al l->(fH p n0 i H al H').get l=H.get l)/\(¬ Hid p n0 i al l->(fH p n0 i H al H').get l=H'.get l)
 |[],l=>⟨λh=>(by obtain⟨_,h,_⟩:=h;cases h),λ_=>rfl⟩
 |a::as,l=>by
  have e:=cu (p:=p) (n0:=n0) (i:=i) (H:=H) (H':=H') (al:=as) l;simp only[fH];cases hp:p.pre a i with
  |true=>
   simp only[cond_true];have:Hid p n0 i (a::as) l↔Hid p n0 i as l:=by
    constructor
    ·rintro⟨b,c,h1,d⟩
     rcases List.mem_cons.1 c with rfl|c
     grind
     ·exact⟨b,c,h1,d⟩
    ·rintro⟨b,c,h⟩
     exact⟨b,g_ _ c,h⟩
   grind
  |false=>
   simp only[cond_false,F_];by_cases hl:l=n0+a
   ·rw[if_pos hl];exact⟨λ_=>by rw[hl],λh=>absurd ⟨a,l_,hp,hl⟩ h⟩
   ·rw[if_neg hl];have:Hid p n0 i (a::as) l↔Hid p n0 i as l:=by
     constructor
     ·rintro⟨b,c,h1,d⟩
      rcases List.mem_cons.1 c with rfl|c
      ·exact absurd d hl
      ·exact⟨b,c,h1,d⟩
     ·rintro⟨b,c,h⟩
      exact⟨b,g_ _ c,h⟩
    grind
end
section
def kH.val(e:kH):AV :=
 match e.out with
 | .skip=> .bM []
 | .pure v=>v
 | .fresh v _=>v
 | .read v=>v
 | .im v _=>v
def eu(E:Nat->kH)(i:Nat):Prop := ∃v H,(E i).out= .im v H
def fi(E:Nat->kH)(i:Nat):Prop := ∃v b,(E i).out= .fresh v b
theorem St.ZO(s:St)(d)(a):(s.put d a).H=s.H:=by
 cases s;cases d with
 |none=>rfl
 |some i=>simp only[St.put];grind
theorem St.Xu(s:St)(d)(a):(s.put d a).nt=s.nt:=by
 cases s;cases d with
 |none=>rfl
 |some i=>simp only[St.put];grind
theorem St.Xv(s:St)(d)(a):(s.put d a).df=s.df:=by
 cases s;cases d with
 |none=>rfl
 |some i=>simp only[St.put];grind
theorem St.ZP(s:St)(d)(a)(u):cR (s.put d a).t u=if d=c_ u/\u<s.nt then a else cR s.t u:=by
 cases d with
 |none=>simp[St.put]
 |some i=>
  cases hi:s_ i s.nt with
  |true=>
   simp only[St.put,hi,cond_true,qH];rw[m_]at hi
   grind
  |false=>
   have b :¬ i<s.nt:=λe=>by rw[<-m_,hi]at e;cases e
   simp only[St.put,hi,cond_false]
   grind
theorem kH.Xw(e:kH)(n0 u):cR (e.next n0).t u=if e.o.dst=c_ u/\u<e.s.nt then e.val else cR e.s.t u:=by
 unfold kH.next kH.val;cases e.out<;>simp only[St.ZP,St.heap]<;>rfl
theorem kH.Ul(e:kH)(n0):(e.next n0).nt=e.s.nt:=by
 unfold kH.next;cases e.out<;>simp only[St.Xu,St.heap]
theorem kH.Um(e:kH)(n0):(e.next n0).df=e.s.df:=by
 unfold kH.next;cases e.out<;>simp only[St.Xv,St.heap]
theorem rV(n0)(s0)(E)(i):gG n0 s0 E (i+1)=(E i).next n0:=rfl
set_option linter.unusedSectionVars false
section
variable {P:Program} {I:bg} {ops:Array Oper} {al:List Nat} {n0 N:Nat} {s0 sf:St} {E:Nat->kH}
variable (hplan:iG I ops (bA ops)=true) (ht:jA P I ops (bA ops) al n0 N s0 ops.size E sf)
include hplan ht
theorem Un{i}(hi:i<ops.size):(E i).s.H=(gG n0 s0 E i).H:=(ht.same i hi).H
theorem wj{i}(hi:i<ops.size):ops[i]? =c_ (E i).o:=by
 have:=(ht.ok i hi).1
 rwa[ht.ix i hi]at this
theorem PJ:∀i,i<=ops.size->(gG n0 s0 E i).nt=s0.nt
 |0,_=>rfl
 |i+1,hi=>by rw[rV,kH.Ul,(ht.same i O).nt];exact PJ i O
theorem WN:∀i,i<=ops.size->(gG n0 s0 E i).df=s0.df
 |0,_=>rfl
 |i+1,hi=>by rw[rV,kH.Um,(ht.same i O).df];exact WN i O
theorem Xx{i}(hi:i<ops.size)(u):cR (gG n0 s0 E (i+1)).t u=if(E i).o.dst=c_ u/\u<s0.nt then(E i).val else cR (gG n0 s0 E i).t u:=by
 rw[rV,kH.Xw,(ht.same i hi).t u,(ht.same i hi).nt,PJ hplan ht i O]
theorem te{u:Nat}:∀(d i),i+d<=ops.size->(∀j,i<=j->j<i+d->(E j).o.dst≠c_ u)->cR (gG n0 s0 E (i+d)).t u=cR (gG n0 s0 E i).t u
 |0,i,_,_=>rfl
 |d+1,i,hi,h=>by have e:i+(d+1)=(i+d)+1:=O;rw[e,Xx hplan ht O,if_neg (by simp_all)];exact te d i O Y
theorem EC{u}(a :¬ u<s0.nt):∀i,i<=ops.size->cR (gG n0 s0 E i).t u=cR s0.t u
 |0,_=>rfl
 |i+1,hi=>by rw[Xx hplan ht O,if_neg (λh=>a h.2)];exact EC a i O
theorem l4{i}(hi:i<ops.size):(¬ eu E i/\¬ fi E i/\(gG n0 s0 E (i+1)).H=(gG n0 s0 E i).H)∨
  (¬ eu E i/\∃v b,(E i).out= .fresh v b/\i∈al/\(gG n0 s0 E (i+1)).H=(gG n0 s0 E i).H.set (n0+i) b)∨
  (¬ fi E i/\∃v H2 H',(E i).out= .im v H2/\H2=fH (bA ops) n0 i (gG n0 s0 E i).H al H'/\H'.n<=N/\(gG n0 s0 E (i+1)).H=H2):=by
 have d:=(ht.ok i hi).2;have f:=ht.ix i hi;have g:=Un hplan ht hi;have a:∀o,(E i).out=o->(gG n0 s0 E (i+1)).H=(match o with| .fresh _ b=>(gG n0 s0 E i).H.set (n0+i) b| .im _ H=>H|_=>(gG n0 s0 E i).H):=by intro o c;rw[rV];simp only[kH.next,c];cases o<;>simp only[St.ZO,St.heap,f,g]
 cases c:(E i).out with
 |skip=>exact .inl ⟨(λ⟨_,_,e⟩=>by rw[c]at e;cases e),(λ⟨_,_,e⟩=>by rw[c]at e;cases e),a _ c⟩
 |pure v=>exact .inl ⟨(λ⟨_,_,e⟩=>by rw[c]at e;cases e),(λ⟨_,_,e⟩=>by rw[c]at e;cases e),a _ c⟩
 |read v=>exact .inl ⟨(λ⟨_,_,e⟩=>by rw[c]at e;cases e),(λ⟨_,_,e⟩=>by rw[c]at e;cases e),a _ c⟩
 |fresh v b=>rw[c]at d;exact .inr (.inl ⟨(λ⟨_,_,e⟩=>by rw[c]at e;cases e),v,b,rfl,Y,a _ c⟩)
 |im v H2=>rw[c]at d;obtain⟨_,_,H',_,h,h3⟩:=d;rw[f,g]at h;exact .inr (.inr ⟨(λ⟨_,_,e⟩=>by rw[c]at e;cases e),v,H2,H',rfl,h,h3,a _ c⟩)
theorem Uo(a:s0.H.n<=N):∀i,i<=ops.size->(gG n0 s0 E i).H.n<=N
 |0,_=>a
 |i+1,hi=>by
  rcases l4 hplan ht (O:i<ops.size)with⟨_,_,e⟩|⟨_,v,b,_,_,e⟩|⟨_,v,H2,H',_,c,d,e⟩
  ·rw[e];exact Uo a i O
  ·rw[e];exact Uo a i O
  ·rw[e,c,jH];exact d
theorem Ke(c:∀l,n0<=l->s0.H.get l= .dead){a}(ha:a∈al):∀i,i<=ops.size->i<=a->(gG n0 s0 E i).H.get (n0+a)= .dead
 |0,_,_=>c _ O
 |i+1,hi,g=>by
  have d:=Ke c ha i O O;rcases l4 hplan ht (O:i<ops.size)with⟨_,_,e⟩|⟨_,v,b,_,_,e⟩|⟨_,v,H2,H',_,h,j,e⟩
  ·rw[e];exact d
  ·rw[e,F_,if_neg O];exact d
  ·rw[e,h];have f:(bA ops).pre a i=false:=by
    rw[e_];intro f;have:=xu hplan O f;omega
   rw[(cu _).1 ⟨a,ha,f,rfl⟩];exact d
theorem mL{l}:∀(d i),i+d<=ops.size->(∀h,i<=h->h<i+d->eu E h->Hid (bA ops) n0 h al l)->(∀a,i<=a->a<i+d->fi E a->l≠n0+a)->
  (gG n0 s0 E (i+d)).H.get l=(gG n0 s0 E i).H.get l
 |0,i,_,_,_=>rfl
 |d+1,i,hi,g,j=>by
  have k:i+(d+1)=(i+d)+1:=O;have c:=mL d i O (λh m o=>g h m O) Y;rw[k];rcases l4 hplan ht (O:i+d<ops.size)with⟨_,_,e⟩|⟨_,v,b,f,_,e⟩|⟨_,v,H2,H',f,n,p,e⟩
  ·rw[e];exact c
  ·rw[e,F_,if_neg (j (i+d) O O ⟨v,b,f⟩)];exact c
  ·rw[e,n,(cu _).1 (g (i+d) O O ⟨v,H2,f⟩)];exact c
theorem pK:∀(d i),i+d<=ops.size->(∀h,i<=h->h<i+d->¬ eu E h)->(gG n0 s0 E (i+d)).H.n=(gG n0 s0 E i).H.n
 |0,i,_,_=>rfl
 |d+1,i,hi,a=>by
  have g:i+(d+1)=(i+d)+1:=O;have c:=pK d i O (λh j k=>a h j O);rw[g];rcases l4 hplan ht (O:i+d<ops.size)with⟨_,_,e⟩|⟨_,v,b,f,_,e⟩|⟨_,v,H2,H',f,l,m,e⟩
  ·rw[e];exact c
  ·rw[e];exact c
  ·exact absurd ⟨v,H2,f⟩ (a (i+d) O O)
end
theorem tf(E)(k):∀(d i),i+d=k->∃m,i<=m/\m<=k/\(m<k->eu E m)/\∀h,i<=h->h<m->¬ eu E h
 |0,i,h=>⟨i,dP _,O,λa=>O,O⟩
 |d+1,i,h=>by
  by_cases hi:eu E i
  grind
  ·obtain⟨m,b,c,h3,h4⟩:=tf E k d (i+1) O
   grind
end
section
set_option linter.unusedSectionVars false
def dW(listed:Array Bool)(i:Nat):Prop:=listed.getD i false=true
structure Up (ops:Array Oper) (al:List Nat) (n0 N:Nat) (s0:St) (E:Nat->kH) (c:fE) (Hc:Env) (listed:Array Bool) (m:Nat) (ρ:Env) (HS:AH) (a:Act) (w:World):Prop where
 size:listed.size=ops.size
 closed:∀f g,ops[f]? =c_ g->dW listed f->∀e∈g.after,Region.binds .any e=true->dW listed e.on
 T5:m<=ops.size
 mh:m<ops.size->eu E m/\¬ dW listed m
 mlt:∀h,h<m->eu E h->dW listed h
 n:HS.n=(gG n0 s0 E m).H.n
 lo:n0+ops.size<=HS.n
 g1:∀x,x<ops.size->fi E x->dW listed x->x<m->HS.get (n0+x)=(gG n0 s0 E m).H.get (n0+x)
 g2:∀x k b,x<ops.size->(E x).out= .fresh k b->dW listed x->m<=x->HS.get (n0+x)=b
 g3:∀x,x<ops.size->fi E x->¬ dW listed x->HS.get (n0+x)= .dead/\ρ (n0+x)=B_
 g4:∀l,(∀x,x<ops.size->fi E x->l≠n0+x)->HS.get l=(gG n0 s0 E m).H.get l
 rel:Rel c ρ HS w
 ext:Ext Hc ρ
 sK:a.tmps.size=s0.nt
 LS:∀i,¬ i<s0.nt->VR ρ (cR s0.t i) undef
 tmp:∀x,x<=ops.size->(x<ops.size->¬ dW listed x)->∀i,(x<ops.size->i∈iu ops (E x).o)->(∀f,f<x->(E f).o.dst=c_ i->dW listed f)->VR ρ (cR (gG n0 s0 E x).t i) (a.tmps.getD i undef)
 df:J7 ρ s0.df a.defers
theorem yi(E)(i):∀d,(∀h,i<=h->h<i+d->¬ eu E h)∨∃h,i<=h/\h<i+d/\eu E h/\∀a,h<a->a<i+d->¬ eu E a
 |0=>Y
 |d+1=>by
  by_cases b:eu E (i+d)
  grind
  ·rcases yi E i d with h|⟨h,h1,c,h3,h4⟩
   all_goals grind
section
variable {P:Program} {I:bg} {ops:Array Oper} {al:List Nat} {n0 N:Nat} {s0 sf:St} {E:Nat->kH} {c:fE} {Hc:Env}
variable (hplan:iG I ops (bA ops)=true) (ht:jA P I ops (bA ops) al n0 N s0 ops.size E sf)
include hplan ht
theorem yj{listed:Array Bool}{ρ ρ':Env}{a:Act}{y:Nat}(r:y<ops.size)(H :¬ dW listed y)(G:∀i,(bA ops).pre i y=true->dW listed i)
  (I:∀b,b<ops.size->dW listed b->∀i,(bA ops).pre i b=true->dW listed i) (J:listed.size=ops.size)
  (h:a.tmps.size=s0.nt) (s:∀u,¬ u<s0.nt->VR ρ (cR s0.t u) undef)
  (l:∀x,x<=ops.size->(x<ops.size->¬ dW listed x)->∀u,(x<ops.size->u∈iu ops (E x).o)->(∀j,j<x->(E j).o.dst=c_ u->dW listed j)->VR ρ (cR (gG n0 s0 E x).t u) (a.tmps.getD u undef))
  (hx:Ext ρ ρ') {v:Value} (K:VR ρ' (E y).val v):
  ∀x,x<=ops.size->(x<ops.size->¬ dW (listed.setIfInBounds y true) x)->∀u,(x<ops.size->u∈iu ops (E x).o)->(∀j,j<x->(E j).o.dst=c_ u->dW (listed.setIfInBounds y true) j)->
   VR ρ' (cR (gG n0 s0 E x).t u) ((a.put (E y).o.dst v).tmps.getD u undef):=by
 have m:∀j,dW (listed.setIfInBounds y true) j↔j=y∨dW listed j:=λj=>by
  unfold dW;by_cases e:j=y;simp_all
  ·simp only[M,a_]
   grind
 intro x n L u N P;have w:x<ops.size->¬ dW listed x:=by simp_all
 have C:x<ops.size->x≠y:=by simp_all
 by_cases f:u<s0.nt
 ·by_cases q:(E y).o.dst=c_ u
  ·have c:(a.put (E y).o.dst v).tmps.getD u undef=v:=by
    rw[q];simp[Act.put,M,h,f]
   rw[c];by_cases Q:y<x
   ·
    have k:∀b,y+1<=b->b<(y+1)+(x-(y+1))->(E b).o.dst≠c_ u:=by intro b W X R;have D:b<ops.size:=O;have S:dW listed b:=Y;have:(bA ops).pre y b=true:=oG hplan (wj hplan ht D) (wj hplan ht r) O (.inr (.inl ⟨u,q,by simp[iu,R]⟩));exact Y
    have:=te hplan ht (x-(y+1)) (y+1) O k;have T:y+1+(x-(y+1))=x:=O;rw[T]at this;rw[this,Xx hplan ht r,if_pos ⟨q,f⟩];exact K
   ·have g:x<ops.size:=by omega
    have U:=C g;have:(bA ops).pre x y=true:=oG hplan (wj hplan ht r) (wj hplan ht g) O Y
    grind
  ·have c:(a.put (E y).o.dst v).tmps.getD u undef=a.tmps.getD u undef:=by
    cases F:(E y).o.dst with
    |none=>rfl
    |some d=>
     have:d≠u:=by simp_all
     simp only[Act.put,M,a_];rw[if_neg this]
   rw[c];refine VR.ext hx _ _ (l x n w u N λj V p=>((m j).1 (P j V p)).resolve_left λe=>?_);subst e;exact q p
 ·rw[EC hplan ht f x n];have c:(a.put (E y).o.dst v).tmps.getD u undef=undef:=by
   have Z:(a.put (E y).o.dst v).tmps.size=s0.nt:=by
    cases F:(E y).o.dst with
    |none=>exact h
    |some d=>simp[Act.put,h]
   rw[M,v_ Y];rfl
  rw[c];exact VR.ext hx _ _ (s u f)
theorem Xy{listed:Array Bool}{m:Nat}{ρ:Env}{HS:AH}{a:Act}{w:World}(hN:s0.H.n<=N)(eg:∀l,n0<=l->s0.H.get l= .dead)(fs:∀l,c.E l->l<n0)(hG:c.G=I.G)
  (h:Up ops al n0 N s0 E c Hc listed m ρ HS a w) {y:Nat} (hy:y∈Region.ready .any ops listed) {ro:Option Nat} {n:Nat} {K:Act->World->Prop} {Q:Exit->Act->World->Prop}
  (hK:∀m' ρ' e5 a' w',Up ops al n0 N s0 E c Hc (listed.setIfInBounds y true) m' ρ' e5 a' w'->K a' w'):wpOpIn (WF ro) n P ops Q y K a w:=by
 obtain⟨cv,o,ad,cx⟩:=mem_ready.1 hy;have J:y<ops.size:=(Array.getElem?_eq_some_iff.1 ad).1;have a7 :¬ dW listed y:=by unfold dW;rw[M,z Y]at cv⊢;simpa using cv
 have aa:(E y).o=o:=by have:=wj hplan ht J;rw[ad]at this;exact Y
 have T:∀i,(bA ops).pre i y=true->dW listed i:=kZ hplan h.closed ad (λe he hb=>cx e he hb);have b6:∀p,p<ops.size->dW listed p->∀i,(bA ops).pre i p=true->dW listed i:=λp hz e6=>kZ hplan h.closed (z hz) (h.closed p _ (z hz) e6)
 have V:∀j,dW (listed.setIfInBounds y true) j↔j=y∨dW listed j:=λj=>by
  unfold dW;by_cases e:j=y
  ·subst e;simp[M,h.size,J]
  ·simp only[M,a_]
   grind
 have ap:(listed.setIfInBounds y true).size=ops.size:=by simp[h.size]
 have X:∀j o,ops[j]? =c_ o->dW (listed.setIfInBounds y true) j->∀e∈o.after,Region.binds .any e=true->dW (listed.setIfInBounds y true) e.on:=by
  intro j o' c6 hl e he hb;refine(V _).2 (.inr ?_);rcases(V j).1 hl with rfl|hl
  ·rw[ad]at c6;cases c6;exact cx e he hb
  ·exact h.closed j o' c6 hl e he hb
 have bs:∀u,u∈iu ops o->VR ρ (cR (E y).s.t u) (a.tmps.getD u undef):=by
  intro u hu;rw[(ht.same y J).t u];refine h.tmp y (Nat.le_of_lt J) (λ_=>a7) u (by simp_all) λj hj ft=>?_
  have e7:j<ops.size:=O;exact T j (oG hplan ad (wj hplan ht e7) hj Y)
 have b3:∀x,VR ρ ((E y).s.mJ I.G o x) (a.eval x):=by
  intro x;cases x with
  |tmp u=>
   simp only[St.mJ,Act.eval];cases hu:vi (HE o) u with
   |true=>exact bs u (by simp only[iu,List.mem_append];exact .inl (.inr (yf.1 hu)))
   |false=>simp only[cond_false,VR]
  |const v=>
   simp only[St.mJ,St.ev,CY,Act.eval];split
   ·rename_i a ha;exact mB ρ v a ha
   ·simp only[VR]
  |global g=>
   simp only[St.mJ,St.ev,Act.eval];cases hg:s_ g I.G with
   |true=>
    rw[m_]at hg;obtain⟨N,hN⟩:=h.rel.eZ g O;simp only[cond_true,VR]
    grind
   |false=>simp only[cond_false,VR]
  |func f=>simp only[St.mJ,St.ev,Act.eval,VR];exact⟨[],[],rfl,zH,zH⟩
 have c7:=ht.ix y J;have U:=(ht.ok y J).2;have eh:=Un hplan ht J;have S:rU ops (E y)->Region.wanted o (yielded ops a.tmps)=true:=by
  rintro(hg|⟨j,want,d,hg,hd,hv⟩)
  ·rw[aa]at hg;simp[Region.wanted,hg]
  ·rw[aa]at hg;have:=bs d (by simp[iu,hg,hd]);rw[hv]at this;simp only[VR]at this;rw[rN hg hd this];simp
 have cd:PH ops (E y)->Region.wanted o (yielded ops a.tmps)=false:=by
  rintro⟨j,want,d,hg,hd,hv⟩
  rw[aa]at hg;have:=bs d (by simp[iu,hg,hd]);rcases hv with hv|hv
  ·rw[hv]at this;simp only[VR]at this;rw[rN hg hd this];cases want<;>rfl
  ·rw[hv]at this;simp only[VR]at this;obtain⟨vs,h5,h6⟩:=this;simp only[aV]at h6;subst h6;exact pG hg hd h5
 have a6:Region.wanted o (yielded ops a.tmps)=true->o.wpIn (WF ro) n P a w K Q->wpOpIn (WF ro) n P ops Q y K a w:=λhw hh=>by simp only[wpOpIn,ad,hw,if_true];exact hh
 have b0:∀(v:AV)(u:Value)(w':World)(ρ':Env),(E y).val=v->¬ eu E y->¬ fi E y->Ext ρ ρ'->(∀x,x<ops.size->ρ' (n0+x)=ρ (n0+x))->Rel c ρ' HS w'->VR ρ' v u->K (a.put o.dst u) w':=by
  intro v u w' ρ' ei dd dk hx fv hr hv;have Z:=yj hplan ht J a7 T b6 h.size h.sK h.LS h.tmp hx (by rw[ei];exact hv);rw[aa]at Z;refine hK m ρ' HS _ w' ⟨ap,X,h.T5,λW=>⟨(h.mh W).1,λhl=>?_⟩,λx b7 hh=>(V x).2 (.inr (h.mlt x b7 hh)),h.n,h.lo,λx r R hl W=>?_,λx v b r R hl W=>?_,λx r R hl=>?_,h.g4,hr,h.ext.trans hx,?_,λu hu=>VR.ext hx _ _ (h.LS u hu),Z,?_⟩
  ·rcases(V m).1 hl with e|hl
   ·rw[e]at W;exact dd (e▸(h.mh (e▸W)).1)
   ·exact(h.mh W).2 hl
  ·refine h.g1 x r R Y W
  ·exact h.g2 x v b r R (((V x).1 hl).resolve_left λe=>dk (e▸⟨v,b,R⟩)) W
  ·obtain⟨e1,e2⟩:=h.g3 x r R (by simp_all)
   grind
  ·cases hd:o.dst with
   |none=>exact h.sK
   |some d=>simp[Act.put,h.sK]
  ·cases hd:o.dst with
   |none=>exact h.df.ext hx
   |some d=>exact h.df.ext hx
 have ej:∀out,(E y).out=out->(∀v H,out≠ .im v H)->¬ eu E y:=λout ho e8 ⟨v,H,e⟩=>Y
 have ek:∀out,(E y).out=out->(∀v b,out≠ .fresh v b)->¬ fi E y:=λout ho e8 ⟨v,b,e⟩=>Y
 have F:∀x,x<ops.size->fi E x->x∈al:=λx r R=>by
  rcases l4 hplan ht r with⟨_,e,_⟩|⟨_,_,_,_,e,_⟩|⟨e,_⟩
  all_goals grind
 cases C:(E y).out with
 |skip=>rw[C]at U;have hw:=cd U;simp only[wpOpIn,ad,hw,lu,if_false];exact⟨λ_ _=>trivial,b0 (.bM []) undef w ρ (by simp[kH.val,C]) Y Y (Ext.refl ρ) (λ_ _=>rfl) h.rel xY⟩
 |pure v=>
  rw[C]at U;obtain⟨hw,_,H',dr,b1,D⟩:=U;rw[aa]at b1 D;have b5:HS.n<=N:=by rw[h.n];exact Uo hplan ht hN m h.T5
  obtain⟨u,w',ρ',e1,e2,e3,e4,_⟩:=D _ ρ w a.eval b3 (h.rel.blank b5);obtain⟨f1,f2⟩:=h.rel.Xr b5 e3 dr;refine a6 (S hw) ⟨jr,?_⟩;rw[Oper.semAt_eq _ _ _ b1,e1,Oper.uponIn_value];refine b0 v u w' ρ' (by simp[kH.val,C]) Y Y f1 (λx hx=>?_) f2 e4;have en:=h.lo;have:n0+x<(HS.up N).n:=n_ O b5;exact(e3.env (n0+x) this).2
 |read v=>
  rw[C]at U;obtain⟨hw,_,eR⟩:=U;have key:∃q:AH,fg P o ((E y).s.mJ I.G o) q v/\q.n=HS.n/\∀l,q.get l= .dead∨q.get l=HS.get l:=by
   by_cases dt:m<y
   ·have bd:m<ops.size:=by omega
    obtain⟨⟨u,Hh,W⟩,dv⟩:=h.mh bd;have hp:(bA ops).pre m y=false:=by rw[e_];intro e;exact dv (T m e)
    have hb:=ht.back y m v u Hh J dt C W hp;rw[aa]at hb;refine⟨_,hb,by rw[tZ,Un hplan ht bd];exact h.n.symm,λl=>?_⟩;by_cases hid:Hid (bA ops) n0 y al l
    ·exact .inl ((kI l).1 hid)
    ·rw[(kI l).2 hid,Un hplan ht bd];by_cases b8:∃x,x<ops.size/\fi E x/\l=n0+x
     ·obtain⟨x,r,R,rfl⟩:=b8;have b4:=F x r R;have bq:(bA ops).pre x y=true:=by
       cases bq:(bA ops).pre x y with
       |true=>rfl
       |false=>exact absurd ⟨x,b4,bq,rfl⟩ hid
      by_cases cf:x<m
      ·exact .inr (h.g1 x r R (T x bq) cf).symm
      ·exact .inl (Ke hplan ht eg b4 m h.T5 O)
     ·exact .inr (h.g4 l (by simp_all)).symm
   ·have fA:y<m:=by
     rcases o_ y m with e|e
     ·exact e
     ·have:m=y:=by omega
      subst this;obtain⟨⟨u,Hh,W⟩,_⟩:=h.mh J
      grind
    have bd:=h.T5;have stage:∃x,y<=x/\x<=m/\(∀k,x<=k->k<m->¬ eu E k)/\fg P o ((E y).s.mJ I.G o) (iH (bA ops) n0 y al (gG n0 s0 E x).H) v:=by
     rcases yi E y (m-y)with fB|⟨k,h1,h2,h3,h4⟩
     ·grind
     ·obtain⟨u,Hh,hk⟩:=h3;have eo:y<k:=by
       rcases o_ y k with e|e
       ·exact e
       ·grind
      have ea:k<ops.size:=O;have hp:(bA ops).pre y k=false:=by rw[e_];intro e;exact a7 (b6 k ea (h.mlt k O ⟨u,Hh,hk⟩) y e)
      have hb:=ht.WM y k v u Hh ea eo C hk hp;rw[aa]at hb;have fF:Hh=(gG n0 s0 E (k+1)).H:=by
       rcases l4 hplan ht ea with⟨e,_,_⟩|⟨e,_⟩|⟨_,v',e9,fa,e1,_,_,e2⟩
       ·exact absurd ⟨u,Hh,hk⟩ e
       ·grind
       ·grind
      grind
    obtain⟨x,fN,b7,fP,fb⟩:=stage;have e0:x+(m-x)=m:=O;have b9:=pK hplan ht (m-x) x O (by simp_all);rw[e0]at b9;refine⟨_,fb,by rw[tZ,h.n,b9],λl=>?_⟩;by_cases hid:Hid (bA ops) n0 y al l
    ·exact .inl ((kI l).1 hid)
    ·rw[(kI l).2 hid];by_cases b8:∃p,p<ops.size/\fi E p/\l=n0+p
     ·obtain⟨p,ep,R,rfl⟩:=b8;have er:=F p ep R;have cg:(bA ops).pre p y=true:=by
       cases cg:(bA ops).pre p y with
       |true=>rfl
       |false=>exact absurd ⟨p,er,cg,rfl⟩ hid
      have ga:=xu hplan J cg;have hc:=mL hplan ht (l:=n0+p) (m-x) x O (by simp_all) O;rw[e0]at hc;rw[<-hc];exact .inr (h.g1 p ep R (T p cg) O).symm
     ·have hc:=mL hplan ht (l:=l) (m-x) x O (by simp_all) Y;rw[e0]at hc;rw[<-hc];exact .inr (h.g4 l (by simp_all)).symm
  obtain⟨q,⟨b1,D⟩,eb,hM⟩:=key;have ed:=h.rel.A2 (L:=λl=>q.get l= .dead) (HM:=q) eb λl=>by
   grind
  obtain⟨u,e1,e2⟩:=D _ ρ w a.eval b3 ed;refine a6 (S hw) ⟨jr,?_⟩;rw[Oper.semAt_eq _ _ _ b1,e1,Oper.uponIn_value];exact b0 v u w ρ (by simp[kH.val,C]) Y Y (Ext.refl ρ) (λ_ _=>rfl) h.rel e2
 |fresh v b=>
  rw[C]at U;obtain⟨hw,_,et,v0,H',dr,⟨b1,D⟩,hv,hb⟩:=U;rw[aa]at b1 D;rw[c7]at et hv hb;have b5:HS.n<=N:=by rw[h.n];exact Uo hplan ht hN m h.T5
  obtain⟨u,w',ρ',e1,e2,e3,e4,_⟩:=D _ ρ w a.eval b3 (h.rel.blank b5);have en:=h.lo;obtain⟨d1,d2⟩:=h.g3 y J ⟨v,b,C⟩ a7;obtain⟨ew,off,hx,ez,ch⟩:=h.rel.Xs b5 e3 dr (ℓ:=n0+y) O d1 d2 (λe=>Y);rw[<-hb]at ch;have fc:VR ew v u:=by rw[hv];exact VR.bx ez _ _ e4
  refine a6 (S hw) ⟨jr,?_⟩;rw[Oper.semAt_eq _ _ _ b1,e1,Oper.uponIn_value];have Z:=yj hplan ht J a7 T b6 h.size h.sK h.LS h.tmp hx (v:=u) (by simp only[kH.val,C];exact fc);rw[aa]at Z;have dd :¬ eu E y:=Y;refine hK m ew (HS.set (n0+y) b) _ w' ⟨ap,X,h.T5,λW=>⟨(h.mh W).1,λhl=>?_⟩,λx b7 hh=>(V x).2 (.inr (h.mlt x b7 hh)),h.n,h.lo,λx r R hl W=>?_,λx v' b' r R hl W=>?_,λx r R hl=>?_,λl hl=>?_,ch,h.ext.trans hx,?_,λu hu=>VR.ext hx _ _ (h.LS u hu),Z,?_⟩
  ·rcases(V m).1 hl with e|hl
   ·rw[e]at W;exact dd (e▸(h.mh (e▸W)).1)
   ·exact(h.mh W).2 hl
  ·by_cases e:x=y
   ·subst e;rw[k_];have hc:=mL hplan ht (l:=n0+x) (m-(x+1)) (x+1) (by have:=h.T5;omega) (λk h1 h2 hh=>⟨x,et,by
      rw[e_];intro hp;have eC:=h.T5;exact a7 (b6 k O (h.mlt k O hh) x hp),rfl⟩) O
    have e0:x+1+(m-(x+1))=m:=O;rw[e0]at hc;rw[hc];rcases l4 hplan ht r with⟨_,e,_⟩|⟨_,v',b',e1,_,e2⟩|⟨e,_⟩
    ·exact absurd R e
    ·rw[C]at e1;cases e1;rw[e2,k_]
    ·exact absurd R e
   ·rw[G_ _ _ O];exact h.g1 x r R Y W
  ·by_cases e:x=y
   ·subst e;rw[C]at R;cases R;exact k_ _ _ _
   ·rw[G_ _ _ O];exact h.g2 x v' b' r R Y W
  ·have e:x≠y:=by simp_all
   obtain⟨e1,e2⟩:=h.g3 x r R (by simp_all);exact⟨by rw[G_ _ _ O];exact e1,Y⟩
  ·have e:l≠n0+y:=hl y J ⟨v,b,C⟩;rw[G_ _ _ (λe'=>e e'.symm)];exact h.g4 l hl
  ·cases hd:o.dst with
   |none=>exact h.sK
   |some d=>simp[Act.put,h.sK]
  ·cases hd:o.dst with
   |none=>exact h.df.ext hx
   |some d=>exact h.df.ext hx
 |im v H2=>
  rw[C]at U;obtain⟨hw,cp,H',D,cr,gb⟩:=U;rw[aa]at cp;rw[c7,eh,aa]at D;rw[c7,eh]at cr;have eC:=h.T5;have dt:m=y:=by
   rcases C_ m y with e|e|e
   ·have bd:m<ops.size:=by omega
    obtain⟨⟨u,Hh,W⟩,dv⟩:=h.mh bd;have cc:=(ht.ok m bd).2;rw[W]at cc;exact absurd (T m (oG hplan ad (wj hplan ht bd) e Y)) dv
   ·exact e
   ·exact absurd (h.mlt y e ⟨v,H2,C⟩) a7
  subst dt;have eb:(iH (bA ops) n0 m al (gG n0 s0 E m).H).n=HS.n:=by rw[tZ];exact h.n.symm
  have ed:=h.rel.A2 (L:=Hid (bA ops) n0 m al) eb λl=>by
   by_cases hid:Hid (bA ops) n0 m al l
   ·exact .inl ⟨hid,(kI l).1 hid⟩
   ·refine .inr ⟨hid,?_⟩;rw[(kI l).2 hid];by_cases b8:∃x,x<ops.size/\fi E x/\l=n0+x
    ·obtain⟨x,r,R,rfl⟩:=b8;have bq:(bA ops).pre x m=true:=by
      cases bq:(bA ops).pre x m with
      |true=>rfl
      |false=>exact absurd ⟨x,F x r R,bq,rfl⟩ hid
     exact(h.g1 x r R (T x bq) (xu hplan J bq)).symm
    ·exact(h.g4 l (by simp_all)).symm
  refine a6 (S hw) (D ro n (c.A2 ρ HS w (Hid (bA ops) n0 m al)) ρ w a K Q hG b3 ed (λv2 H3 u w' ρ' e hx eG hv=>?_) zA);cases e;obtain⟨_,ch⟩:=h.rel.Px (L:=Hid (bA ops) n0 m al) (H2:=fH (bA ops) n0 m HS al H') eG jH λl=>by
   by_cases hid:Hid (bA ops) n0 m al l
   ·exact .inl ⟨hid,(cu l).1 hid⟩
   ·exact .inr ⟨hid,(cu l).2 hid⟩
  have fr:∀l,l<HS.n->l<H'.n/\ρ' l=ρ l:=λl hl=>eG.env l hl
  have gf:HS.n<=H'.n:=Y;obtain⟨m',k1,k2,k3,k4⟩:=tf E ops.size (ops.size-(m+1)) (m+1) O;have e0:m+1+(m'-(m+1))=m':=O;have fh:(gG n0 s0 E (m+1)).H=H2:=by
   rcases l4 hplan ht J with⟨e,_,_⟩|⟨e,_⟩|⟨_,v',e9,fa,e1,_,_,e2⟩
   ·exact absurd ⟨v,H2,C⟩ e
   ·grind
   ·grind
  have b9:=pK hplan ht (m'-(m+1)) (m+1) O (by simp_all);rw[e0,fh,cr,jH]at b9;have eL:∀l,(∀a,m+1<=a->a<m'->fi E a->l≠n0+a)->(gG n0 s0 E m').H.get l=H2.get l:=λl hl=>by
   have:=mL hplan ht (l:=l) (m'-(m+1)) (m+1) O (by simp_all) Y
   grind
  have Z:=yj hplan ht J a7 T b6 h.size h.sK h.LS h.tmp hx (v:=u) (by simp only[kH.val,C];exact hv);rw[aa]at Z;have dk :¬ fi E m:=Y;have en:=h.lo;have ee:∀x,(bA ops).pre x m=true->x<m:=λx hp=>xu hplan J hp
  refine hK m' ρ' (fH (bA ops) n0 m HS al H') _ w' ⟨ap,X,k2,λW=>⟨k3 W,λhl=>?_⟩,λx b7 hh=>?_,?_,?_,λx r R hl W=>?_,λx v' b' r R hl W=>?_,λx r R hl=>?_,λl hl=>?_,ch,h.ext.trans hx,?_,λu hu=>VR.ext hx _ _ (h.LS u hu),Z,?_⟩
  ·obtain⟨u',Hh,fo⟩:=k3 W;have cc:=(ht.ok m' W).2;rw[fo]at cc;have hp:=oG hplan (wj hplan ht W) ad O Y
   grind
  ·by_cases e:x<m
   ·exact(V x).2 (.inr (h.mlt x e hh))
   grind
  ·rw[jH,b9]
  ·rw[jH];omega
  ·have cf:x≠m:=λe=>dk (e▸R)
   have eM:=((V x).1 hl).resolve_left cf;have b4:=F x r R;by_cases eN:x<m
   ·rw[eL _ O,cr];by_cases hid:Hid (bA ops) n0 m al (n0+x)
    ·rw[(cu _).1 hid,(cu _).1 hid];exact h.g1 x r R eM eN
    ·rw[(cu _).2 hid,(cu _).2 hid]
   ·have hid:Hid (bA ops) n0 m al (n0+x):=⟨x,b4,by
     rw[e_];intro hp;exact eN (ee x hp),rfl⟩
    rw[(cu _).1 hid];obtain⟨v',b',ef⟩:=R;rw[h.g2 x v' b' r ef eM O];have hc:=mL hplan ht (l:=n0+x) (m'-(x+1)) (x+1) O (λk h1 h2 hh=>Y) O;have e1:x+1+(m'-(x+1))=m':=O;rw[e1]at hc;rw[hc];rcases l4 hplan ht r with⟨_,e,_⟩|⟨_,v2,b2,e1,_,e2⟩|⟨e,_⟩
    ·exact absurd ⟨v',b',ef⟩ e
    ·rw[ef]at e1;cases e1;rw[e2,k_]
    grind
  ·have cf:x≠m:=by omega
   have hid:Hid (bA ops) n0 m al (n0+x):=⟨x,F x r ⟨v',b',R⟩,by
    grind,rfl⟩
   rw[(cu _).1 hid];exact h.g2 x v' b' r R Y O
  ·have eP :¬ dW listed x:=by simp_all
   have hid:Hid (bA ops) n0 m al (n0+x):=⟨x,F x r R,by rw[e_];intro hp;exact eP (T x hp),rfl⟩
   obtain⟨e1,e2⟩:=h.g3 x r R eP;exact⟨by rw[(cu _).1 hid];exact e1,Y⟩
  ·rw[eL l Y,cr];by_cases hid:Hid (bA ops) n0 m al l
   ·rw[(cu _).1 hid,(cu _).1 hid];exact h.g4 l hl
   ·rw[(cu _).2 hid,(cu _).2 hid]
  ·cases hd:o.dst with
   |none=>exact h.sK
   |some d=>simp[Act.put,h.sK]
  ·cases hd:o.dst with
   |none=>exact h.df.ext hx
   |some d=>exact h.df.ext hx
end
end
section
set_option linter.unusedSectionVars false
theorem wk{I}:∀{os i t o},os[t]? =c_ o->ZN I o= .ye->vh o=true->i+t∈nQ I i os
 |[],i,t,o,h,_,_=>by simp at h
 |b::os,i,t,o,h,h1,a=>by
  cases t with
  |zero=>simp only[u_,gO]at h;subst h;simp only[nQ,h1,a,cond_true,Nat.add_zero];simp
  |succ t=>
   simp only[List.getElem?_cons_succ]at h;have:=wk (i:=i+1) h h1 a;have e:i+(t+1)=i+1+t:=O;rw[e];simp only[nQ]
   grind
section
variable {P:Program} {I:bg} {ops:Array Oper} {al:List Nat} {n0 N:Nat} {s0 sf:St} {E:Nat->kH} {c:fE} {Hc:Env}
variable (hplan:iG I ops (bA ops)=true) (ht:jA P I ops (bA ops) al n0 N s0 ops.size E sf)
include hplan ht
theorem PK{listed m ρ j a w}(h:Up ops al n0 N s0 E c Hc listed m ρ j a w)(d:∀i,i<ops.size->dW listed i):(aK.n sf).post c Hc .normal a w:=by
 have k:m=ops.size:=by
  have:=h.T5;rcases o_ m ops.size with e|e
  ·exact absurd (d m e) (h.mh e).2
  ·omega
 subst k;have b:=ht.last;refine⟨ρ,h.ext,⟨by rw[b,PJ hplan ht _ (dP _)];exact h.sK,λu=>?_⟩,?_,by rw[b,WN hplan ht _ (dP _)];exact h.df⟩
 ·rw[b];exact h.tmp ops.size (dP _) (λe=>O) u (λe=>O) Y
 ·rw[b];refine h.rel.congr h.n.symm λl=>?_
  by_cases g:∃x,x<ops.size/\fi E x/\l=n0+x
  ·obtain⟨x,f,o,rfl⟩:=g;exact(h.g1 x f o (d x f) f).symm
  ·exact(h.g4 l (by simp_all)).symm
theorem ED{listed}(b:listed.size=ops.size)(h:Region.ready .any ops listed=[]):∀i,i<ops.size->dW listed i:=by
 intro i
 induction i using i_ with
 |_ i c=>
  intro hi;apply b_;intro d;have:i∈Region.ready .any ops listed:=by
   refine mem_ready.2 ⟨?_,ops[i],z hi,λe f g=>?_⟩
   ·unfold dW at d
    grind
   ·have a:=jP hplan (z hi) f g;exact c e.on a O
  grind
theorem WO{ro n}(D:s0.H.n<=N)(d:∀l,n0<=l->s0.H.get l= .dead)(k:∀l,c.E l->l<n0)(hG:c.G=I.G):∀(fuel)(f:List Nat)(listed)(m)(ρ)(r)(a) (w),
  f.length=fuel->f.Nodup->(∀i,i<ops.size->(¬ dW listed i↔i∈f))->(∀i,i∈f->i<ops.size)->Up ops al n0 N s0 E c Hc listed m ρ r a w->
  wpAnyIn (WF ro) n P .any ops ((aK.n sf).post c Hc) fuel listed a w
 |0,f,listed,m,ρ,r,a,w,hl,_,F,_,h=>by
  have p:f=[]:=Y;subst p;have g:∀i,i<ops.size->dW listed i:=by simp_all
  refine⟨?_,PK hplan ht h g⟩;cases s:Region.ready .any ops listed with
  |nil=>rfl
  |cons y R=>
   have q:y∈Region.ready .any ops listed:=by rw[s];exact l_
   obtain⟨t,o,u,_⟩:=mem_ready.1 q;have b:=(Array.getElem?_eq_some_iff.1 u).1;have:=g y b;unfold dW at this
   grind
 |fuel+1,f,listed,m,ρ,r,a,w,hl,v,F,K,h=>by
  refine⟨λs=>PK hplan ht h (ED hplan ht h.size s),λy q=>?_⟩;refine Xy hplan ht D d k hG h q λL ρ' x a' w' O=>?_
  obtain⟨t,o,u,_⟩:=mem_ready.1 q;have b:=(Array.getElem?_eq_some_iff.1 u).1;have C :¬ dW listed y:=by unfold dW;rw[M,z Y]at t⊢;simpa using t
  have Q:=(F y b).1 C;have J:∀j,dW (listed.setIfInBounds y true) j↔j=y∨dW listed j:=λj=>by
   unfold dW;by_cases e:j=y
   ·subst e;simp[M,h.size,b]
   ·simp only[M,a_]
    grind
  refine WO D d k hG fuel (f.erase y) _ L ρ' x a' w' ?_ (v.erase y) (λi hi=>?_) (λi hi=>Y) O
  all_goals grind
end
section
variable {R:Type} {X:RI R} {sem:R->Prop} (hX:X.Ok sem) {I:bg} {P:Program} (hI:I.Ok P)
include hX hI in
theorem vj(N:Nat){r:j6 R}{round:iU R}(C:jq P I sem r)(f:iV P I sem round){ops:Array Oper}{k:KS R}{s:St}(h:sem (drawn X I N r round ops k s)):
  ∃sf,sem (k.n sf)/\∀ro n c ρ a w,c.G=I.G->cL c ρ s a w->wpAnyIn (WF ro) n P .any ops ((aK.n sf).post c ρ) ops.size (f_ ops.size false) a {w with drawn:=w.drawn+1}:=by
 unfold drawn at h;cases hp:iG I ops (PM.of ops.toList {n:=0,l:=[]})&&Nat.ble (s.H.n+ops.size) N with
 |false=>rw[hp]at h;exact zR
 |true=>
  rw[hp]at h;simp only[ba]at hp;obtain⟨hplan,hN⟩:=hp;have hplan:iG I ops (bA ops)=true:=hplan;have hN:s.H.n+ops.size<=N:=fT hN;have U:Ka I ops (nQ I 0 ops.toList):=λi o ho hc V=>by obtain⟨u,W,rfl⟩:=hc;have:=wk (I:=I) (i:=0) (os:=ops.toList) (t:=i) (by simpa using ho) W V;simpa using this
  obtain⟨s0,d⟩:∃s0,s0=s.heap (s.H.up (s.H.n+ops.size)):=⟨_,rfl⟩;have t0:jA P I ops (bA ops) (nQ I 0 ops.toList) s.H.n N s0 0 (λ_=>{ix:=0,o:=default,s:=s0,out:=.skip}) s0 :=⟨λj T=>O,λj T=>O,λj T=>O,rfl,λj h v u Hh T=>O,λj h v u Hh T=>O⟩
  obtain⟨sf,E,g,ht⟩:=Kb hX hI C f U (p:=bA ops) (K:=k.n) ops.toList 0 s0 _ rfl (E_ _) t0 (by rw[d];exact h);refine⟨sf,g,λro n c ρ a w hG q=>?_⟩;have D:Rel c ρ s0.H {w with drawn:=w.drawn+1}:=by rw[d];exact(q.heap.up (Nat.le_add_right _ _)).drawn _
  have F:s0.nt=s.nt:=by rw[d];rfl
  have J:s0.t=s.t:=by rw[d];rfl
  have L:s0.df=s.df:=by rw[d];rfl
  have aa:s0.H.n=s.H.n+ops.size:=by rw[d];rfl
  have y:∀l,s.H.n<=l->s0.H.get l= .dead:=λl hl=>by rw[d];exact q.heap.low l hl
  obtain⟨m,_,k2,k3,Y⟩:=tf E ops.size ops.size 0 O;have e:∀i,¬ dW (f_ ops.size false) i:=λi=>by unfold dW;rw[M,j_];by_cases hi:i<ops.size<;>simp[hi]
  have e0:0+(m-0)=m:=O;have Q:=pK hplan ht (m-0) 0 O λh g S=>Y h g O
  rw[e0]at Q;refine WO hplan ht O y (λl hl=>(q.heap.env l hl).1) hG ops.size (t_ ops.size) _ m ρ s0.H a _ zA List.nodup_range (λi hi=>?_) (λi hi=>List.mem_range.1 hi) ?_
  ·exact⟨λ_=>List.mem_range.2 hi,λ_=>e i⟩
  ·refine⟨zA,λj o _ hl=>absurd hl (e j),k2,λV=>⟨k3 V,e m⟩,λh g S=>absurd S (Y h (E_ _) g),Q.symm,O,λx _ _ hl=>absurd hl (e x),λx v b _ _ hl=>absurd hl (e x),λx hx hf _=>⟨y _ O,q.heap.top _ O⟩,λl hl=>?_,D,Ext.refl ρ,by rw[F];exact q.tmp.1,λu W=>?_,λx hx _ u _ hw=>?_,by rw[L];exact q.df⟩
   ·have:=mL hplan ht (l:=l) (m-0) 0 O (λk g S hh=>absurd hh (Y k g O)) (λa g S hf=>hl a O hf);rw[e0]at this;exact this.symm
   ·have:=q.tmp.2 u;rw[J];have Z:a.tmps.getD u undef=undef:=by
     rw[M,v_ (by rw[q.tmp.1,<-F];exact q_ W)];rfl
    rw[Z]at this;exact this
   ·have:=te hplan ht (u:=u) (x-0) 0 O λj g S hd=>e j (hw j O hd)
    have Z:0+(x-0)=x:=O;rw[Z]at this;rw[this];show VR ρ (cR s0.t u) _;rw[J];exact q.tmp.2 u
include hX hI in
theorem PL(N:Nat):qJ P I sem (drawn X I N):=by
 intro e round d b ops k s h;obtain⟨sf,f,g⟩:=vj hX hI N d b h;exact⟨.n sf,f,λro n c ρ a w id hG i=>wpIn_region_any hI.mixed (g ro n c ρ a w hG i)⟩
def Xz(o:Oper):Bool:=match o.op with
 | .call {callee:=.value _,..}=>true
 |_=>false
def HG(I:bg)(ops:Array Oper):Bool :=
 match ops.back? with
 |none=>false
 |some o=>Xz o&&iG I ops (bA ops)&&iG I ops.pop (bA ops.pop)&&(t_ ops.pop.size).all (λi=>(bA ops).pre i ops.pop.size)&&ops.pop.toList.all (λo=>match o.guard with|none=>true|some (j,_)=>s_ j ops.pop.size)
def yl(X:RI R)(I:bg)(N:Nat):qI R:=λa round ops k s=>
 bif HG I ops then drawn X I N a round ops.pop {k with n:=λb=>match ops.back? with
  |some o=>oc X I a round ops k [o] b
  |none=>X.fail} s
 else drawn X I N a round ops k s
end
end
mutual
def VR.iI{σ:Nat->Nat}{ρ:Env}:∀(a:AV)(v:Value),VR ρ (a.bx σ) v->VR (ρ.gX σ) a v
 | .bool _,_,k=>zD
 | .int _ _,_,k=>zD
 | .str _,_,k=>zD
 | .nilPtr,_,k=>zD
 | .ptr l _ _ _,v,k=>by simp only[VR,p_]at k⊢;exact k
 | .slice l _ _ _ _ _,v,k=>by simp only[VR,p_]at k⊢;exact k
 | .aD,_,k=>zD
 | .own l len e,v,k=>by simp only[VR,p_]at k⊢;exact k
 | .map B_,_,k=>zD
 | .map (c_ l),v,k=>by simp only[VR,p_]at k⊢;exact k
 | .fn f first d,v,k=>by simp only[VR,p_]at k⊢;obtain⟨us,vs,e,r,s⟩:=k;exact⟨us,vs,e,aV.iI first us r,aV.iI d vs s⟩
 | .yield l,v,k=>by simp only[VR,p_]at k⊢;exact k
 | .jm,_,k=>zD
 | .addr _ _,_,k=>zD
 | .nilIface,_,k=>zD
 | .iface t a,v,k=>by simp only[VR,p_]at k⊢;obtain⟨u,e,r⟩:=k;exact⟨u,e,VR.iI a u r⟩
 | .agg cs,v,k=>by simp only[VR,p_]at k⊢;obtain⟨vs,e,r⟩:=k;exact⟨vs,e,aV.iI cs vs r⟩
 | .bM cs,v,k=>by simp only[VR,p_]at k⊢;obtain⟨vs,e,r⟩:=k;exact⟨vs,e,aV.iI cs vs r⟩
 | .any,_,_=>zB
 | .bW _ _,v,k=>by simp only[VR,p_]at k⊢;obtain⟨b,q,vs,h,i,h3⟩:=k;exact⟨b,q,vs,h,i,h3⟩
 | .ae _ _ _,v,k=>by
  simp only[VR,p_]at k⊢;rcases k with k|⟨b,q,c,a,j,h,i,h3⟩
  ·exact .inl k
  ·exact .inr ⟨b,q,c,a,j,h,i,h3⟩
def aV.iI{σ:Nat->Nat}{ρ:Env}:∀(as:List AV)(vs:List Value),aV ρ (bj.bx σ as) vs->aV (ρ.gX σ) as vs
 |[],_,k=>by simpa only[aV,bj.bx]using k
 |a::as,vs,k=>by simp only[aV,bj.bx]at k⊢;obtain⟨u,us,e,r,s⟩:=k;exact⟨u,us,e,VR.iI a u r,aV.iI as us s⟩
end
def aE.iI{σ:Nat->Nat}{ρ:Env}{w:World}{o:Option (Nat×Nat)}{cs:List AV}{rw:Access}(k:aE ρ w o (bj.bx σ cs) rw):aE (ρ.gX σ) w o cs rw:=by
 rcases k with⟨h,k⟩|⟨b,N,vs,rest,el,a,h1,c,h3,h4,d⟩
 ·cases cs with
  |nil=>exact .inl ⟨rfl,k⟩
  |cons=>simp[bj.bx]at h
 ·exact .inr ⟨b,N,vs,rest,el,a,h1,c,h3,aV.iI _ _ h4,d⟩
def bn.iI{σ:Nat->Nat}{ρ:Env}{w:World}{o:Option (Nat×Nat)}{b:aae}(k:bn ρ w o (b.bx σ)):bn (ρ.gX σ) w o b:=by
 cases b with
 |cells cs rw=>exact aE.iI k
 |rows n e f rw=>
  refine⟨λi hi=>by have:=k.1 i hi;simpa only[bj.mI,List.length_map]using this,?_⟩;have C:bj.bx σ (rowsOf n f)=rowsOf n (λi=>bj.bx σ (f i)):=by simp only[bj.mI,rowsOf,List.map_flatMap]
  have:=k.2;rw[<-C]at this;exact aE.iI this
 |str s rw=>refine aE.iI (σ:=σ) (cs:=byteCells s) ?_;rw[sJ];exact k
 |map es=>
  obtain⟨b,N,ms,h,m,q,⟨v,h3,h4,y,D⟩,E⟩:=k;rw[tc]at h3 h4;rw[tb]at y;refine⟨b,N,ms,h,m,q,⟨v,aV.iI _ _ ?_,aV.iI _ _ ?_,y,D⟩,λe=>E (by rw[e];rfl)⟩
  ·simpa [bj.mI,Function.comp_def]using h3
  ·simpa [bj.mI,Function.comp_def]using h4
 |loop G H t nt I as J df=>
  obtain⟨b,N,d,c,fn,vs,m,q,h3,h4⟩:=k;refine⟨b,N,d,c,fn,vs,m,q,⟨h3.1,λi=>?_⟩,h4⟩;have:=h3.2 i;unfold cR at this⊢;rw[Tr.get_map]at this;cases ht:t.get i with
  |none=>simp[VR]
  |some a=>rw[ht]at this;exact VR.iI _ _ (by simpa using this)
 |tL=>exact k
 |iter l=>exact k
 |jn n K=>exact k
 |gy l since S=>exact k
 |dK n K Q F=>obtain⟨b,N,u,m,q,h3,h4⟩:=k;refine⟨b,N,u,m,q,λi hi=>VR.iI _ _ (h3 i hi),λj a e=>?_⟩;subst e;exact⟨(h4 _ _ A).1,VR.iI _ _ (h4 _ _ A).2⟩
 |dead=>trivial
structure Sub (a:Nat) (σ:Nat->Nat) (H0 H:AH):Prop where
 lt:∀l,l<H0.n->σ l<H.n
 ge:∀l,H0.n<=l->σ l=H.n+(l-H0.n)
 same:∀l,H0.get l≠ .dead->H.get (σ l)=(H0.get l).bx σ
 inj:∀l l',H0.get l≠ .dead->H0.get l'≠ .dead->σ l=σ l'->l=l'
 eZ:∀g,g<a->g<H0.n/\σ g=g
 low:∀l,H0.n<=l->H0.get l= .dead
structure EE (σ:Nat->Nat) (H0 H0' H H':AH):Prop where
 n:H'.n=H.n+(H0'.n-H0.n)
 old:∀l,H0.get l≠ .dead->H'.get (σ l)=(H0'.get l).bx σ
 new:∀l,H0.n<=l->H'.get (σ l)=(H0'.get l).bx σ
 rest:∀l,l<H.n->(∀k,H0.get k≠ .dead->σ k≠l)->H'.get l=H.get l
def fE.jt(c:fE)(ρ:Env)(H0 H:AH)(σ:Nat->Nat)(w:World):fE :=
 {w0:=w
  Z:=λk=>c.Z k∨∃l N,H.get l≠ .dead/\(H.get l).rw=false/\ρ l=c_ (k,N)
  G:=c.G
  X:=λk=>c.X k∨∃l N,(H.get l).rw=true/\(∀j,H0.get j≠ .dead->σ j≠l)/\ρ l=c_ (k,N)
  E:=λl=>l<H0.n
  Hc:=ρ.gX σ}
def dB{b:aae}(h:b.rw=true):b≠ .dead:=λe=>by rw[e]at h;cases h
def Rel.jt{c:fE}{ρ:Env}{H0 H:AH}{σ:Nat->Nat}{w:World}(h:Rel c ρ H w)(s:Sub c.G σ H0 H):Rel (c.jt ρ H0 H σ w) (ρ.gX σ) H0 w:=by
 have f:∀l,H0.get l≠ .dead->H.get (σ l)≠ .dead:=λl b=>by rw[s.same l b];exactλe=>b (aae.PE.1 e)
 have u:∀l,H0.get l≠ .dead->(H.get (σ l)).rw=(H0.get l).rw:=λl b=>by rw[s.same l b,aae.td]
 have old:∀k,c.Z k∨c.X k->k<w.heap.size:=λk i=>n_ (h.gY k i).1 h.size
 refine⟨λl=>?_,λl j r N o v a q m=>?_,λl r N a q y=>?_,λk i=>⟨?_,rfl⟩,dP _,rfl,rfl,rfl,λl hl=>?_,λg C=>?_,λl r N b q hx=>?_,λl hl=>⟨hl,rfl⟩,s.low,h.sY,λl r N a q=>?_,λk i=>?_,λ_ _ e=>e⟩
 ·by_cases b:H0.get l= .dead
  ·rw[b];trivial
  ·have:=h.eB (σ l);rw[s.same l b]at this;exact bn.iI this
 ·apply b_;intro d;have b:=dB a;exact f j d (h.sep (σ l) (σ j) r N o (λe=>v (s.inj l j b d e)) Y q m)
 ·have b:=dB a;have t:(H.get (σ l)).rw=true:=by rw[u l b];exact a
  rcases y with y|⟨j,o,d,D,m⟩
  ·exact h.iB _ r N t q y
  ·refine d (h.sep (σ l) j r N o (λe=>?_) t q m)
   grind
 ·rcases i with(i|⟨j,o,d,_,m⟩)|(i|⟨j,o,a,_,m⟩)
  ·exact old k (.inl i)
  ·exact h.lt d m
  ·exact old k (.inr i)
  ·exact h.lt (dB a) m
 ·show ρ (σ l)=B_;exact h.top _ (by rw[s.ge l hl];omega)
 ·obtain⟨N,E⟩:=h.eZ g C;exact⟨N,by show ρ (σ g)=_;rw[(s.eZ g C).2];exact E⟩
 ·rcases hx with hx|⟨j,o,a,F,m⟩
  ·exact h.hid _ r N (f l b) q hx
  ·exact f l b (h.sep j (σ l) r o N (λe=>F l b e.symm) a m q)
 ·exact h.sy (σ l) r N (by rw[u l (dB a)];exact a) q
 ·rcases i with i|⟨j,o,a,_,m⟩
  ·exact h.tJ k i
  ·exact h.sy j k o a m
def Env.back(ρ ρ':Env)(n0 n:Nat):Env:=⟨λl=>if l<n then ρ l else ρ' (n0+(l-n)),ρ'.fz⟩
def Rel.PN{c:fE}{ρ ρ':Env}{H0 H j H':AH}{σ:Nat->Nat}{w w':World}(h:Rel c ρ H w)(s:Sub c.G σ H0 H)(d:Rel (c.jt ρ H0 H σ w) ρ' j w')(t:EE σ H0 j H H'):
  Ext ρ (ρ.back ρ' H0.n H.n)/\(∀l,ρ.back ρ' H0.n H.n (σ l)=ρ' l)/\Rel c (ρ.back ρ' H0.n H.n) H' w':=by
 have I:H0.n<=j.n:=by
  refine q_ λQ=>?_
  have:=(d.env j.n Q).1;omega
 have v:∀l,l<H.n->ρ.back ρ' H0.n H.n l=ρ l:=λl hl=>by simp[Env.back,hl]
 have C:∀l,ρ.back ρ' H0.n H.n (σ l)=ρ' l:=λl=>by
  by_cases hl:l<H0.n
  ·rw[v _ (s.lt l hl)];exact(d.env l hl).2.symm
  ·have:=s.ge l (q_ hl);simp only[Env.back,this]
   grind
 have hx:Ext ρ (ρ.back ρ' H0.n H.n):=by
  refine⟨λl x e=>?_,d.sZ⟩;have:l<H.n:=r_ λI=>by rw[h.top l I]at e;cases e
  rw[v l this];exact e
 have bx:w6 σ ρ' (ρ.back ρ' H0.n H.n):=⟨by simp_all,λ_ _ e=>e⟩;have kind:∀l,(∃k,l=σ k/\H'.get l=(j.get k).bx σ)∨(l<H.n/\(∀k,H0.get k≠ .dead->σ k≠l)/\H'.get l=H.get l):=λl=>by
  by_cases hl:l<H.n
  ·by_cases f:∃k,H0.get k≠ .dead/\σ k=l
   ·obtain⟨k,f,rfl⟩:=f;exact .inl ⟨k,rfl,t.old k f⟩
   ·have:∀k,H0.get k≠ .dead->σ k≠l:=by grind
    exact .inr ⟨hl,this,t.rest l hl this⟩
  ·have e:l=σ (H0.n+(l-H.n)):=by rw[s.ge _ O];omega
   refine .inl ⟨_,e,?_⟩;rw[e];have:=t.new (H0.n+(l-H.n)) O
   grind
 have D:∀l r N,l<H.n->(∀k,H0.get k≠ .dead->σ k≠l)->H.get l≠ .dead->ρ l=c_ (r,N)->((H.get l).rw=false/\(c.jt ρ H0 H σ w).Z r)∨((H.get l).rw=true/\(c.jt ρ H0 H σ w).X r):=λl r N _ f u b=>by
  cases a:(H.get l).rw with
  |true=>exact .inr ⟨rfl,.inr ⟨l,N,a,f,b⟩⟩
  |false=>exact .inl ⟨rfl,.inr ⟨l,N,u,a,b⟩⟩
 have m:∀k,(j.get k).bx σ≠ .dead->j.get k≠ .dead:=λk u e=>u (by rw[e];rfl)
 refine⟨hx,C,λl=>?_,λl F r N P J a b o=>?_,λl r N a b q=>?_,λk f=>?_,Nat.le_trans h.size d.size,d.os.trans h.os,d.output.trans h.output,d.tape.trans h.tape,λl hl=>?_,λg R=>?_,λl r N u b q=>?_,λl hl=>?_,λl hl=>?_,d.sY,λl r N a b=>?_,λk f=>d.tJ k (.inl f),λk vs e=>d.sZ k vs (h.sZ k vs e)⟩
 ·rcases kind l with⟨k,rfl,e⟩|⟨hl,f,e⟩
  ·rw[e,C];exact bn.bx bx (d.eB k)
  ·rw[e,v l hl];by_cases u:H.get l= .dead
   ·rw[u];trivial
   ·refine bn.world (λr N E=>?_) ((h.eB l).ext hx);exact(d.gY r Y).2
 ·apply b_;intro i;rcases kind l with⟨k,rfl,e⟩|⟨hl,f,e⟩
  ·rw[e,aae.td]at a;rw[C]at b;rcases kind F with⟨K,rfl,E⟩|⟨y,L,E⟩
   ·rw[E]at i;rw[C]at o;exact m K i (d.sep k K r N P (λe=>J (by rw[e])) a b o)
   ·rw[E]at i;rw[v F y]at o;rcases D F r P y L i o with⟨_,q⟩|⟨_,q⟩
    ·exact d.iB k r N a b q
    ·exact d.hid k r N (dB a) b q
  ·rw[e]at a;rw[v l hl]at b;rcases kind F with⟨K,rfl,E⟩|⟨y,L,E⟩
   ·rw[E]at i;rw[C]at o;rcases D l r N hl f (dB a) b with⟨T,_⟩|⟨_,q⟩
    grind
    ·exact d.hid K r P (m K i) o q
   ·rw[E]at i;rw[v F y]at o;exact i (h.sep l F r N P J a b o)
 ·rcases kind l with⟨k,rfl,e⟩|⟨hl,f,e⟩
  ·rw[e,aae.td]at a;rw[C]at b;exact d.iB k r N a b (.inl q)
  ·rw[e]at a;rw[v l hl]at b;exact h.iB l r N a b q
 ·obtain⟨b,o⟩:=h.gY k f;exact⟨b,((d.gY k (f.imp .inl .inl)).2).trans o⟩
 ·rw[t.n]at hl;simp only[Env.back];rw[if_neg O];exact d.top _ O
 ·obtain⟨N,S⟩:=h.eZ g R;exact⟨N,hx _ _ S⟩
 ·rcases kind l with⟨k,rfl,e⟩|⟨hl,f,e⟩
  ·rw[e]at u;rw[C]at b;exact d.hid k r N (m k u) b (.inl q)
  ·rw[e]at u;rw[v l hl]at b;exact h.hid l r N u b q
 ·obtain⟨b,o⟩:=h.env l hl;exact⟨by rw[t.n];omega,Y⟩
 ·rw[t.n]at hl;have e:l=σ (H0.n+(l-H.n)):=by rw[s.ge _ O];omega
  have:=t.new (H0.n+(l-H.n)) O;rw[<-e]at this;rw[this,d.low _ O];rfl
 ·rcases kind l with⟨k,rfl,e⟩|⟨hl,f,e⟩
  ·rw[e,aae.td]at a;rw[C]at b;exact d.sy k r N a b
  ·rw[e]at a;rw[v l hl]at b;exact d.tJ r (.inr ⟨l,N,a,f,b⟩)
def CO.jt(σ:Nat->Nat)(H':AH):CO->CO
 | .ret a _=> .ret (a.bx σ) H'
 | .rL a _=> .rL (a.bx σ) H'
def CO.heap:CO->AH
 | .ret _ H=>H
 | .rL _ H=>H
def af.lift{P:Program}{I:bg}{f:FuncId}{args:List AV}{H0:AH}{o:CO}(h:af P I f args H0 o){σ:Nat->Nat}{H H':AH}(s:Sub I.G σ H0 H)(t:EE σ H0 o.heap H H'):
  af P I f (bj.bx σ args) H (o.jt σ H'):=by
 intro c ρ w vs hG C j;rw[<-hG]at s;have l:=j.jt s;have m:=aV.iI _ _ C;have post:∀e w',o.post (c.jt ρ H0 H σ w) (ρ.gX σ) e w'->(o.jt σ H').post c ρ e w':=by
  intro e w' i;cases o with
  |ret a H1=>
   cases e with
   |returned v=>obtain⟨ρ',hx,b,d⟩:=i;obtain⟨k1,k2,q⟩:=j.PN s b t;exact⟨_,k1,q,VR.bx (σ:=σ) (ρ:=ρ') (ρ':=ρ.back ρ' H0.n H.n) ⟨by simp_all,λ_ _ e=>e⟩ _ _ d⟩
   |panicked D=>exact i.elim
   |outgrown=>exact i.elim
  |rL a H1=>
   cases e with
   |returned v=>exact i.elim
   |panicked D=>obtain⟨ρ',u,rfl,hx,b,d⟩:=i;obtain⟨k1,k2,q⟩:=j.PN s b t;exact⟨_,u,rfl,k1,q,VR.bx (σ:=σ) (ρ:=ρ') (ρ':=ρ.back ρ' H0.n H.n) ⟨by simp_all,λ_ _ e=>e⟩ _ _ d⟩
   |outgrown=>exact i.elim
 rcases h (c.jt ρ H0 H σ w) (ρ.gX σ) w vs hG m l with⟨h1,y⟩|⟨v,w',h1,y⟩
 ·exact .inl ⟨h1,y.mono post⟩
 grind
mutual
def AV.le(σ:Nat->Nat):AV->AV->Prop
 |_,.any=>True
 | .bool a,.bool b=>a=b
 | .int k x,.int v y=>k=v/\x=y
 | .str s,.str t=>s=t
 | .ptr a b c d,.ptr a' h l m=>a=σ a'/\b=h/\c=l/\d=m
 | .nilPtr,.nilPtr=>True
 | .slice a b c d e f,.slice a' h l m o q=>a=σ a'/\b=h/\c=l/\d=m/\(∀x,o=c_ x->e=c_ x)/\f=q
 | .aD,.aD=>True
 | .aD,.own _ n _=>n=0
 | .aD,.ae n _ _=>n=0
 | .own a b c,.own a' h l=>a=σ a'/\b=h/\c=l
 | .map B_,.map B_=>True
 | .map (c_ a),.map (c_ b)=>a=σ b
 | .fn f a b,.fn q a' h=>f=q/\bj.le σ a a'/\bj.le σ b h
 | .yield a,.yield b=>a=σ b
 | .jm,.jm=>True
 | .nilIface,.nilIface=>True
 | .iface t a,.iface w a'=>t=w/\AV.le σ a a'
 | .agg a,.agg b=>bj.le σ a b
 | .bM a,.bM b=>bj.le σ a b
 | .bW cs j,.bW u C=>bj.le σ cs u/\j=C
 | .ae n e f,.ae D o g=>n=D/\e=o/\∀i,i<n->bj.le σ (f i) (g i)
 | .addr a b,.addr a' h=>a=a'/\b=h
 |_,_=>False
def bj.le(σ:Nat->Nat):List AV->List AV->Prop
 |[],[]=>True
 |a::as,b::E=>AV.le σ a b/\bj.le σ as E
 |_,_=>False
end
def Ext.gX{σ}{ρ:Env}:Ext ρ.bare (ρ.gX σ).bare:=⟨λ_ _ e=>zG,λ_ _ e=>e⟩
mutual
def VR.le{σ:Nat->Nat}{ρ:Env}:∀(a b:AV)(v:Value),AV.le σ a b->VR ρ a v->VR (ρ.gX σ) b v
 | .fn f x y,b,v,h,k=>by
  cases b<;>simp only[AV.le]at h
  ·obtain⟨rfl,d,w⟩:=h;simp only[VR]at k⊢;obtain⟨us,vs,e,r,s⟩:=k;exact⟨us,vs,e,aV.le x _ us d r,aV.le y _ vs w s⟩
  ·simp only[VR]
 | .iface t x,b,v,h,k=>by
  cases b<;>simp only[AV.le]at h
  ·obtain⟨rfl,d⟩:=h;simp only[VR]at k⊢;obtain⟨u,e,r⟩:=k;exact⟨u,e,VR.le x _ u d r⟩
  ·simp only[VR]
 | .agg cs,b,v,h,k=>by
  cases b<;>simp only[AV.le]at h
  ·simp only[VR]at k⊢;obtain⟨vs,e,r⟩:=k;exact⟨vs,e,aV.le cs _ vs h r⟩
  ·simp only[VR]
 | .bM cs,b,v,h,k=>by
  cases b<;>simp only[AV.le]at h
  ·simp only[VR]at k⊢;obtain⟨vs,e,r⟩:=k;exact⟨vs,e,aV.le cs _ vs h r⟩
  ·simp only[VR]
 | .bW cs j,b,v,h,k=>by
  cases b<;>simp only[AV.le]at h
  ·simp only[VR]
  ·obtain⟨d,rfl⟩:=h;simp only[VR]at k⊢;obtain⟨b,q,vs,e,r,s⟩:=k;exact⟨b,q,vs,e,r.mono λ_ _ e=>e,aV.le cs _ vs d s⟩
 | .ae n e f,b,v,h,k=>by
  cases b<;>simp only[AV.le]at h
  ·simp only[VR]
  ·obtain⟨rfl,rfl,d⟩:=h;simp only[VR]at k⊢;rcases k with k|⟨b,q,c,a,m,e,r,s⟩
   ·exact .inl k
   ·exact .inr ⟨b,q,c,a,m,e,r,λhl=>⟨(s hl).1,(s hl).2.1.mono λ_ _ e=>e,λi hi=>⟨((s hl).2.2 i hi).1,aV.le (f i) _ _ (d i hi) ((s hl).2.2 i hi).2⟩⟩⟩
 | .bool _,b,v,h,k=>by cases b<;>simp only[AV.le]at h<;>first|(simp only[VR];done)|(simp only[VR]at k⊢;exact k)|(subst h;simp only[VR]at k⊢;exact k)|(obtain⟨rfl,rfl⟩:=h;simp only[VR]at k⊢;exact k)|(obtain⟨rfl,rfl,rfl,rfl⟩:=h;simp only[VR]at k⊢;exact k)
 | .int _ _,b,v,h,k=>by cases b<;>simp only[AV.le]at h<;>first|(simp only[VR];done)|(simp only[VR]at k⊢;exact k)|(subst h;simp only[VR]at k⊢;exact k)|(obtain⟨rfl,rfl⟩:=h;simp only[VR]at k⊢;exact k)|(obtain⟨rfl,rfl,rfl,rfl⟩:=h;simp only[VR]at k⊢;exact k)
 | .str _,b,v,h,k=>by cases b<;>simp only[AV.le]at h<;>first|(simp only[VR];done)|(simp only[VR]at k⊢;exact k)|(subst h;simp only[VR]at k⊢;exact k)|(obtain⟨rfl,rfl⟩:=h;simp only[VR]at k⊢;exact k)|(obtain⟨rfl,rfl,rfl,rfl⟩:=h;simp only[VR]at k⊢;exact k)
 | .nilPtr,b,v,h,k=>by cases b<;>simp only[AV.le]at h<;>first|(simp only[VR];done)|(simp only[VR]at k⊢;exact k)|(subst h;simp only[VR]at k⊢;exact k)|(obtain⟨rfl,rfl⟩:=h;simp only[VR]at k⊢;exact k)|(obtain⟨rfl,rfl,rfl,rfl⟩:=h;simp only[VR]at k⊢;exact k)
 | .addr _ _,b,v,h,k=>by cases b<;>simp only[AV.le]at h<;>first|(simp only[VR];done)|(obtain⟨rfl,rfl⟩:=h;simp only[VR]at k⊢;exact k)
 | .jm,b,v,h,k=>by cases b<;>simp only[AV.le]at h<;>first|(simp only[VR];done)|(simp only[VR]at k⊢;exact k)|(subst h;simp only[VR]at k⊢;exact k)|(obtain⟨rfl,rfl⟩:=h;simp only[VR]at k⊢;exact k)|(obtain⟨rfl,rfl,rfl,rfl⟩:=h;simp only[VR]at k⊢;exact k)
 | .nilIface,b,v,h,k=>by cases b<;>simp only[AV.le]at h<;>first|(simp only[VR];done)|(simp only[VR]at k⊢;exact k)|(subst h;simp only[VR]at k⊢;exact k)|(obtain⟨rfl,rfl⟩:=h;simp only[VR]at k⊢;exact k)|(obtain⟨rfl,rfl,rfl,rfl⟩:=h;simp only[VR]at k⊢;exact k)
 | .any,b,v,h,k=>by cases b<;>simp only[AV.le]at h<;>first|(simp only[VR];done)|(simp only[VR]at k⊢;exact k)|(subst h;simp only[VR]at k⊢;exact k)|(obtain⟨rfl,rfl⟩:=h;simp only[VR]at k⊢;exact k)|(obtain⟨rfl,rfl,rfl,rfl⟩:=h;simp only[VR]at k⊢;exact k)
 | .ptr _ _ _ _,b,v,h,k=>by cases b<;>simp only[AV.le]at h<;>first|(simp only[VR];done)|(simp only[VR]at k⊢;exact k)|(subst h;simp only[VR]at k⊢;exact k)|(obtain⟨rfl,rfl⟩:=h;simp only[VR]at k⊢;exact k)|(obtain⟨rfl,rfl,rfl,rfl⟩:=h;simp only[VR]at k⊢;exact k)
 | .yield _,b,v,h,k=>by cases b<;>simp only[AV.le]at h<;>first|(simp only[VR];done)|(simp only[VR]at k⊢;exact k)|(subst h;simp only[VR]at k⊢;exact k)|(obtain⟨rfl,rfl⟩:=h;simp only[VR]at k⊢;exact k)|(obtain⟨rfl,rfl,rfl,rfl⟩:=h;simp only[VR]at k⊢;exact k)
 | .aD,b,v,h,k=>by cases b<;>simp only[AV.le]at h<;>first|(simp only[VR];done)|(simp only[VR]at k⊢;exact k)|(subst h;simp only[VR]at k⊢;exact .inl ⟨trivial,k⟩)|(simp only[VR]at k⊢;exact .inl ⟨h,k⟩)
 | .own _ _ _,b,v,h,k=>by cases b<;>simp only[AV.le]at h<;>first|(simp only[VR];done)|(obtain⟨rfl,rfl,rfl⟩:=h;simp only[VR]at k⊢;exact k)
 | .map B_,b,v,h,k=>by
  cases b with
  |map l=>cases l<;>simp only[AV.le]at h;simp only[VR]at k⊢;exact k
  |any=>simp only[VR]
  |_=>simp only[AV.le]at h
 | .map (c_ _),b,v,h,k=>by
  cases b with
  |map l=>cases l<;>simp only[AV.le]at h;subst h;simp only[VR]at k⊢;exact k
  |any=>simp only[VR]
  |_=>simp only[AV.le]at h
 | .slice _ _ _ _ _ _,b,v,h,k=>by
  cases b<;>simp only[AV.le]at h
  ·obtain⟨rfl,rfl,rfl,rfl,C,rfl⟩:=h;simp only[VR]at k⊢;obtain⟨b,N,c,a,k1,k2,D,E,F⟩:=k;exact⟨b,N,c,a,k1,k2,D,E,λx e=>F x (C x e)⟩
  ·simp only[VR]
def aV.le{σ:Nat->Nat}{ρ:Env}:∀(as o:List AV)(vs:List Value),bj.le σ as o->aV ρ as vs->aV (ρ.gX σ) o vs
 |[],[],_,_,k=>by simpa only[aV]using k
 |a::as,b::o,vs,h,k=>by simp only[bj.le]at h;simp only[aV]at k⊢;obtain⟨u,us,e,r,s⟩:=k;exact⟨u,us,e,VR.le a _ u h.1 r,aV.le as _ us h.2 s⟩
 |[],_::_,_,h,_=>by simp[bj.le]at h
 |_::_,[],_,h,_=>by simp[bj.le]at h
end
def bj.vk{σ}:∀{as c},bj.le σ as c->as.length=c.length
 |[],[],_=>rfl
 |a::as,b::c,h=>by simp only[bj.le]at h;simp[bj.vk h.2]
 |[],_::_,h=>by simp[bj.le]at h
 |_::_,[],h=>by simp[bj.le]at h
def bj.Bv{σ}:∀{as c cs ds},bj.le σ as c->bj.le σ cs ds->bj.le σ (as++cs) (c++ds)
 |[],[],_,_,_,h=>h
 |a::as,b::c,cs,ds,h,k=>by simp only[bj.le]at h;exact⟨h.1,bj.Bv h.2 k⟩
 |[],_::_,_,_,h,_=>by simp[bj.le]at h
 |_::_,[],_,_,h,_=>by simp[bj.le]at h
def vl{σ f g}:∀{n},(∀i,i<n->bj.le σ (f i) (g i))->bj.le σ (rowsOf n f) (rowsOf n g)
 |0,_=>by simp[rowsOf,bj.le]
 |n+1,h=>by rw[dF,dF];exact bj.Bv (vl λi hi=>h i O) (h n O)
def Tr.le(σ:Nat->Nat):Tr AV->Tr AV->Prop
 |_,.e=>True
 | .e,.n l v r=>Tr.le σ .e l/\(match v with|none=>True|some a=>AV.le σ .any a)/\Tr.le σ .e r
 | .n l v r,.n c d f=>Tr.le σ l c/\(match v,d with|_,B_=>True|some a,c_ b=>AV.le σ a b|none,c_ b=>AV.le σ .any b)/\Tr.le σ r f
def Tr.tg{σ}:∀{t d},Tr.le σ t d->∀i,AV.le σ (cR t i) (cR d i)
 |_,.e,_,i=>by simp[cR,Tr.nK,AV.le]
 | .e,.n l v r,h,i=>by
  simp only[Tr.le]at h;have hl:=Tr.tg h.1;have c:=Tr.tg h.2.2;simp only[cR,Tr.get]at hl c⊢;cases H_ i 0
  grind
  ·cases v with
   |none=>simp[AV.le]
   |some a=>exact h.2.1
 | .n l v r,.n j f m,h,i=>by
  simp only[Tr.le]at h;have hl:=Tr.tg h.1;have c:=Tr.tg h.2.2;simp only[cR,Tr.get]at hl c⊢;cases H_ i 0
  grind
  ·cases f with
   |none=>simp[AV.le]
   |some b=>grind
def Access.le:Access->Access->Prop
 | .ro,.ro=>True
 | .wr,.wr=>True
 | .ty _,.wr=>True
 | .ty e,.ty a=>e=a
 | .ex m,.ex b=>m=b
 |_,_=>False
def Access.LU:∀{a b:Access},a.le b->a.w=b.w
 | .ro,.ro,_=>rfl
 | .wr,.wr,_=>rfl
 | .ty _,.wr,_=>rfl
 | .ty _,.ty _,_=>rfl
 | .ro,.wr,h=>h.elim
 | .ro,.ty _,h=>h.elim
 | .wr,.ro,h=>h.elim
 | .wr,.ty _,h=>h.elim
 | .ty _,.ro,h=>h.elim
 | .ex _,.ex _,_=>rfl
 | .ex _,.ro,h=>h.elim
 | .ex _,.wr,h=>h.elim
 | .ex _,.ty _,h=>h.elim
 | .ro,.ex _,h=>h.elim
 | .wr,.ex _,h=>h.elim
 | .ty _,.ex _,h=>h.elim
def sF.le{a b el d N}(h:sF a el d N)(k:a.le b):sF b el d N :=
 ⟨λf=>h.w (by rw[Access.LU k];exact f),λe c=>by
  subst c;cases a with
  |ty i=>simp only[Access.le]at k;subst k;exact h.ty _ A
  |_=>exact k.elim,λm c=>by
  subst c;cases a with
  |ex j=>simp only[Access.le]at k;subst k;exact h.ex _ A
  |_=>exact k.elim⟩
def aae.le(σ:Nat->Nat):aae->aae->Prop
 |_,.dead=>True
 | .cells cs rw,.cells o b=>bj.le σ cs o/\rw.le b
 | .rows n e f rw,.rows h G g b=>n=h/\e=G/\(∀i,i<n->bj.le σ (f i) (g i))/\rw.le b
 | .cells cs rw,.rows n e g b=>cs.length=n*e/\(∀i,i<n->bj.le σ ((cs.drop (i*e)).take e) (g i))/\0<e/\rw.le b
 | .str s rw,.str q b=>s=q/\rw.le b
 | .rows n _ f rw,.cells cs b=>bj.le σ (rowsOf n f) cs/\rw.le b
 | .map es,.map c=>dZ es=dZ c/\bj.le σ ((iE es).map (·.1)) ((iE c).map (·.1))/\bj.le σ ((iE es).map (·.2)) ((iE c).map (·.2))
 | .loop H I t nt J as L df,.loop u v N w y C D E=>H=u/\I=v/\Tr.le σ t N/\nt=w/\J=y/\as=C/\L=D/\df=σ E
 | .tL,.tL=>True
 | .iter l,.iter F=>l=σ F
 | .jn n K,.jn h O=>n=h/\∀i,i<n->K i=O i
 | .map es,.jn n _=>es=[]/\n=0
 | .gy l s S,.gy F q R=>l=σ F/\s=q/\S=R
 | .dK n f P d,.dK h g Q m=>n=h/\(∀i,i<n->f i=g i)/\(∀i,i<n->AV.le σ (P i) (Q i))/\∀j a',m=c_ (j,a')->∃a,d=c_ (j,a)/\AV.le σ a a'
 | .map es,.dK n _ _ d=>es=[]/\n=0/\d=B_
 |_,_=>False
def aE.le{σ:Nat->Nat}{ρ:Env}{w:World}{o:Option (Nat×Nat)}{cs ds:List AV}{rw c:Access}(h:bj.le σ cs ds)(a:rw.le c)(k:aE ρ w o cs rw):aE (ρ.gX σ) w o ds c:=by
 rcases k with⟨rfl,k⟩|⟨b,N,vs,rest,el,f,h1,i,h3,h4,d⟩
 ·cases ds with
  |nil=>exact .inl ⟨rfl,k⟩
  |cons=>simp[bj.le]at h
 ·exact .inr ⟨b,N,vs,rest,el,f,h1,i,h3,aV.le _ _ _ h h4,d.1.le a,d.2.1,λe=>d.2.2 (by cases rw<;>first|rfl|(rw[e]at a;exact a.elim))⟩
def C4{σ}(s):bj.le σ (byteCells s) (byteCells s)=True:=by
 induction s with
 |nil=>rfl
 |cons a s b=>show bj.le σ (.int .u8 a.toNat::byteCells s) (.int .u8 a.toNat::byteCells s)=True;simp only[bj.le,AV.le,b,and_self]
def bn.le{σ:Nat->Nat}{ρ:Env}{w:World}{o:Option (Nat×Nat)}{a b:aae}(h:a.le σ b)(k:bn ρ w o a):bn (ρ.gX σ) w o b:=by
 unfold aae.le at h;split at h
 ·trivial
 ·exact aE.le h.1 h.2 k
 ·obtain⟨rfl,rfl,h,s⟩:=h;exact⟨λi hi=>by rw[<-bj.vk (h i hi)];exact k.1 i hi,aE.le (vl h) s k.2⟩
 ·rename_i cs rw n e g F;obtain⟨hl,h,G,s⟩:=h;refine⟨λi hi=>?_,?_⟩
  ·have q:i*e+e<=n*e:=by
    have:=Nat.mul_le_mul_right e (O:i+1<=n);rw[Nat.succ_mul]at this;exact this
   rw[<-bj.vk (h i hi)]
   grind
  ·have v:=jF (cs:=cs) (o:=0) G (n:=n) O;simp only[w_,List.drop_zero]at v;rw[<-hl,List.take_length]at v;refine aE.le (cs:=cs) ?_ s k;rw[<-v];exact vl h
 ·obtain⟨rfl,s⟩:=h;exact aE.le (by rw[C4];trivial) s k
 ·exact aE.le h.1 h.2 k.2
 ·rename_i C H;obtain⟨b,N,ms,l,q,m,⟨y,h3,h4,t,I⟩,J⟩:=k;refine⟨b,N,ms,l,q,m,⟨y,aV.le _ _ _ h.2.1 h3,aV.le _ _ _ h.2.2 h4,by rw[<-h.1];exact t,I⟩,λe=>J ?_⟩;subst e;have L:dZ C=false:=h.1;have D:=h.2.1;rw[rE L]at D;cases C with
  |nil=>rfl
  |cons x xs=>exact D.elim
 ·obtain⟨rfl,rfl,h,rfl,rfl,rfl,rfl,rfl⟩:=h;obtain⟨b,N,d,c,fn,vs,q,m,h3,h4⟩:=k;exact⟨b,N,d,c,fn,vs,q,m,⟨h3.1,λi=>VR.le _ _ _ (Tr.tg h i) (h3.2 i)⟩,h4⟩
 ·exact k
 ·subst h;exact k
 ·obtain⟨rfl,h⟩:=h;rename_i n K R;have e:ec n R=ec n K:=by
   unfold ec;exact A_ λi hi=>by rw[h i (List.mem_range.1 hi)]
  obtain⟨b,N,q,m⟩:=k;exact⟨b,N,q,by rw[e];exact m⟩
 ·obtain⟨rfl,rfl⟩:=h;obtain⟨b,N,ms,l,q,m,h3,h4⟩:=k;obtain⟨t,_⟩:=h3.plain rfl;have e:ms=[]:=by
   cases ms with
   |nil=>rfl
   |cons x xs=>simp[aV]at t
  subst e;rw[h4 A]at m;exact⟨b,N,q,m⟩
 ·obtain⟨rfl,rfl,rfl⟩:=h;exact k
 ·obtain⟨rfl,q,m,h3⟩:=h;rename_i n f P S g Q E;obtain⟨b,N,u,g1,g2,g3,g4⟩:=k;have e:jZ n g u=jZ n f u:=by
   unfold jZ;exact A_ λi hi=>by rw[q i (List.mem_range.1 hi)]
  refine⟨b,N,u,g1,by rw[e];exact g2,λi hi=>VR.le _ _ _ (m i hi) (g3 i hi),λj a' ha=>?_⟩;obtain⟨a,h4,t⟩:=h3 j a' ha;exact⟨(g4 j a h4).1,VR.le _ _ _ t (g4 j a h4).2⟩
 ·obtain⟨rfl,rfl,rfl⟩:=h;obtain⟨b,N,ms,l,q,m,h3,h4⟩:=k;obtain⟨t,_⟩:=h3.plain rfl;have e:ms=[]:=by
   cases ms with
   |nil=>rfl
   |cons x xs=>simp[aV]at t
  subst e;rw[h4 A]at m;exact⟨b,N,λ_=> .nilFunc,q,m,λ_ hi=>absurd hi (qx _),λ_ _ e=>zG⟩
 ·exact h.elim
def aae.PO{σ}{a b:aae}(h:a.le σ b)(c:b≠ .dead):a.rw=b.rw:=by
 unfold aae.le at h;split at h
 grind
 ·exact Access.LU h.2
 ·exact Access.LU h.2.2.2
 ·exact Access.LU h.2.2.2
 ·exact Access.LU h.2
 ·exact Access.LU h.2
 ·exact congrArg (λb=>!b) h.1
 ·rfl
 ·rfl
 ·rfl
 ·rfl
 ·obtain⟨rfl,_⟩:=h;rfl
 ·rfl
 ·rfl
 ·obtain⟨rfl,_⟩:=h;rfl
 ·exact h.elim
def aae.Kf{σ}{a b:aae}(h:a.le σ b)(c:b≠ .dead):a≠ .dead:=by
 rintro rfl
 unfold aae.le at h
 grind
def aae.nothing:aae->Prop
 | .cells cs _=>cs=[]
 | .rows n _ _ _=>n=0
 | .str s _=>s=[]
 |_=>False
def bn.ym{ρ w b}(h:b.nothing):bn ρ w B_ b:=by
 cases b with
 |cells cs a=>simp only[aae.nothing]at h;subst h;exact .inl ⟨rfl,rfl⟩
 |rows n e f a=>simp only[aae.nothing]at h;subst h;exact⟨O,.inl ⟨by simp[rowsOf],rfl⟩⟩
 |str s a=>simp only[aae.nothing]at h;subst h;exact .inl ⟨rfl,rfl⟩
 |_=>exact h.elim
structure AH.Le (n0:Nat) (σ:Nat->Nat) (H H':AH):Prop where
 n:n0<=H'.n
 id:∀l,l<n0->σ l=l
 ge:∀l,H'.n<=l->H.n<=σ l
 eB:∀l,H'.get l= .dead∨(H.get (σ l)).le σ (H'.get l)∨(H.n<=σ l/\(H'.get l).nothing)
 inj:∀l l',H'.get l≠ .dead->H'.get l'≠ .dead->σ l=σ l'->σ l<H.n->l=l'
 low:∀l,H'.n<=l->H'.get l= .dead
def Rel.view{c:fE}{ρ:Env}{n0:Nat}{σ:Nat->Nat}{H H':AH}{w:World}(h:Rel c ρ H w)(s:AH.Le n0 σ H H')(hG:c.G<=n0)(v:∀l,c.E l->l<n0):Rel c (ρ.gX σ) H' w:=by
 have lt:∀l r N,ρ (σ l)=c_ (r,N)->σ l<H.n:=λl r N e=>r_ λm=>by rw[h.top _ m]at e;cases e
 have b:∀l r N,H'.get l≠ .dead->ρ (σ l)=c_ (r,N)->(H.get (σ l)).le σ (H'.get l):=λl r N o d=>by
  have:=lt l r N d;rcases s.eB l with k|k|k
  all_goals grind
 refine⟨λl=>?_,λl q r N u t a d j=>?_,λl r N a d=>?_,h.gY,h.size,h.os,h.output,h.tape,λl hl=>h.top _ (s.ge l hl),λg y=>?_,λl r N o d=>?_,λl hl=>?_,s.low,h.sY,λl r N a d=>?_,h.tJ,h.sZ⟩
 ·rcases s.eB l with k|k|⟨k1,k2⟩
  ·rw[k];trivial
  ·exact bn.le k (h.eB _)
  ·show bn _ _ (ρ (σ l)) _;rw[h.top _ k1];exact bn.ym k2
 ·apply b_;intro f;have k:=b l r N (dB a) d;have C:=b q r u f j;refine aae.Kf C f (h.sep (σ l) (σ q) r N u (λe=>t (s.inj l q (dB a) f e (lt l r N d))) ?_ d j);rw[aae.PO k (dB a)];exact a
 ·have k:=b l r N (dB a) d;exact h.iB _ r N (by rw[aae.PO k (dB a)];exact a) d
 ·obtain⟨N,D⟩:=h.eZ g y;exact⟨N,by show ρ (σ g)=_;rw[s.id g O];exact D⟩
 ·exact h.hid _ r N (aae.Kf (b l r N o d) o) d
 ·have i:=v l hl;obtain⟨_,j⟩:=h.env l hl;exact⟨n_ i s.n,by show ρ (σ l)=_;rw[s.id l i];exact j⟩
 ·have k:=b l r N (dB a) d;exact h.sy _ r N (by rw[aae.PO k (dB a)];exact a) d
structure jI (n0:Nat) (ρ ρ':Env):Prop where
 T4:∀l,l<n0->∀x,ρ l=c_ x->ρ' l=c_ x
 fz:∀b vs,ρ.fz b=c_ vs->ρ'.fz b=c_ vs
instance {n0:Nat}{ρ ρ':Env}:CoeFun (jI n0 ρ ρ') (λ_=> ∀l,l<n0->∀x,ρ l=c_ x->ρ' l=c_ x):=⟨jI.T4⟩
def jI.trans{n0 a b c}(h:jI n0 a b)(k:jI n0 b c):jI n0 a c:=⟨λl hl x e=>k l hl x (h l hl x e),λb vs e=>k.fz b vs (h.fz b vs e)⟩
def jI.of{n0 a b}(h:Ext a b):jI n0 a b:=⟨λl _ x e=>h l x e,h.fz⟩
def AH.Le.ext{n0 σ H H'}(s:AH.Le n0 σ H H')(ρ):jI n0 ρ (ρ.gX σ):=⟨λl hl x e=>by show ρ (σ l)=_;rw[s.id l hl];exact e,λ_ _ e=>e⟩
def jI.ext{c ρ ρ' H w}(h:jI H.n ρ ρ')(b:Rel c ρ H w):Ext ρ ρ':=⟨λl x e=>h l (r_ λa=>by rw[b.top l a]at e;cases e) x e,h.fz⟩
structure St.Le (n0:Nat) (s s':St):Prop where
 le:∃σ,AH.Le n0 σ s.H s'.H/\s.nt=s'.nt/\Tr.le σ s.t s'.t/\s.df=s'.df.map σ
def J7.view{ρ σ}:∀{ls ds},J7 ρ (ls.map σ) ds->J7 (ρ.gX σ) ls ds
 |[],_,h=>h
 |_::_,_,⟨b,N,rest,h1,a,h3⟩=>⟨b,N,rest,h1,a,J7.view h3⟩
def cL.view{c ρ n0 s b a w}(h:cL c ρ s a w)(k:St.Le n0 s b)(hG:c.G<=n0)(d:∀l,c.E l->l<n0):∃ρ',jI n0 ρ ρ'/\cL c ρ' b a w:=by
 obtain⟨σ,k1,k2,f,j⟩:=k.le;refine⟨_,k1.ext ρ,⟨h.tmp.1.trans k2,λi=>VR.le _ _ _ (Tr.tg f i) (h.tmp.2 i)⟩,h.heap.view k1 hG d,?_⟩;have:=h.df;rw[j]at this;exact this.view
def aK.Le(n0:Nat):aK->aK->Prop
 | .n s,.n a=>St.Le n0 s a
 | .x i s,.x j a=>i=j/\St.Le n0 s a
 | .g i s,.g j a=>i=j/\St.Le n0 s a
 | .r s,.r a=>St.Le n0 s a
 |_,_=>False
def aK.lN(n0:Nat)(e:aK)(c:fE)(ρ:Env)(x:Exit)(a:Act)(w:World):Prop :=
 match e,x with
 | .n s,.normal=> ∃ρ',jI n0 ρ ρ'/\cL c ρ' s a w
 | .x i s,.exit j=>i=j/\∃ρ',jI n0 ρ ρ'/\cL c ρ' s a w
 | .g l s,.goto m=>l=m/\∃ρ',jI n0 ρ ρ'/\cL c ρ' s a w
 | .r s,.ret=> ∃ρ',jI n0 ρ ρ'/\cL c ρ' s a w
 | .p v s,.panic b=> ∃ρ' u,b=[{v:=u,recovered:=false}]/\jI n0 ρ ρ'/\cL c ρ' s a w/\VR ρ' v u
 |_,_=>False
def aK.j8{n0:Nat}{e:aK}{c:fE}{ρ:Env}{x:Exit}{a:Act}{w:World}(h:e.post c ρ x a w):e.lN n0 c ρ x a w:=by
 cases e<;>cases x<;>simp only[aK.post,aK.lN]at h⊢
 ·obtain⟨ρ',b,d⟩:=h;exact⟨ρ',.of b,d⟩
 ·obtain⟨f,ρ',b,d⟩:=h;exact⟨f,ρ',.of b,d⟩
 ·obtain⟨f,ρ',b,d⟩:=h;exact⟨f,ρ',.of b,d⟩
 ·obtain⟨ρ',b,d⟩:=h;exact⟨ρ',.of b,d⟩
 ·obtain⟨ρ',u,f,b,d⟩:=h;exact⟨ρ',u,f,.of b,d⟩
def aK.jQ{n0:Nat}{e:aK}{c:fE}{ρ f:Env}{x:Exit}{a:Act}{w:World}(hx:jI n0 ρ f)(h:e.lN n0 c f x a w):e.lN n0 c ρ x a w:=by
 cases e<;>cases x<;>simp only[aK.lN]at h⊢
 ·obtain⟨ρ',b,d⟩:=h;exact⟨ρ',hx.trans b,d⟩
 ·obtain⟨i,ρ',b,d⟩:=h;exact⟨i,ρ',hx.trans b,d⟩
 ·obtain⟨i,ρ',b,d⟩:=h;exact⟨i,ρ',hx.trans b,d⟩
 ·obtain⟨ρ',b,d⟩:=h;exact⟨ρ',hx.trans b,d⟩
 ·obtain⟨ρ',u,i,b,d⟩:=h;exact⟨ρ',u,i,hx.trans b,d⟩
def aK.pM{n0:Nat}{e:aK}{c:fE}{ρ:Env}{H:AH}{w0:World}(f:Rel c ρ H w0)(j:n0=H.n){x:Exit}{a:Act}{w:World}(h:e.lN n0 c ρ x a w):e.post c ρ x a w:=by
 subst j;cases e<;>cases x<;>simp only[aK.post,aK.lN]at h⊢
 ·obtain⟨ρ',b,d⟩:=h;exact⟨ρ',b.ext f,d⟩
 ·obtain⟨i,ρ',b,d⟩:=h;exact⟨i,ρ',b.ext f,d⟩
 ·obtain⟨i,ρ',b,d⟩:=h;exact⟨i,ρ',b.ext f,d⟩
 ·obtain⟨ρ',b,d⟩:=h;exact⟨ρ',b.ext f,d⟩
 ·obtain⟨ρ',u,i,b,d⟩:=h;exact⟨ρ',u,i,b.ext f,d⟩
def aK.j9{n0 e j}(k:aK.Le n0 e j){c}(hG:c.G<=n0)(i:∀l,c.E l->l<n0){ρ x a w}(h:e.lN n0 c ρ x a w):j.lN n0 c ρ x a w:=by
 cases e<;>cases j<;>cases x<;>simp only[aK.Le,aK.lN]at k h⊢
 ·obtain⟨ρ',d,f⟩:=h;obtain⟨b,h3,h4⟩:=f.view k hG i;exact⟨b,d.trans h3,h4⟩
 ·obtain⟨m,ρ',d,f⟩:=h;obtain⟨b,h3,h4⟩:=f.view k.2 hG i;exact⟨k.1.symm.trans m,b,d.trans h3,h4⟩
 ·obtain⟨m,ρ',d,f⟩:=h;obtain⟨b,h3,h4⟩:=f.view k.2 hG i;exact⟨k.1.symm.trans m,b,d.trans h3,h4⟩
 ·obtain⟨ρ',d,f⟩:=h;obtain⟨b,h3,h4⟩:=f.view k hG i;exact⟨b,d.trans h3,h4⟩
def Round{ι:Type}(n0:Nat)(J:ι->Prop)(S:ι->St)(E:ι->aK)(a:ι->Nat)(i:ι):aK->Prop
 | .n s=> ∃j,J j/\a j<a i/\St.Le n0 s (S j)/\E j=E i
 |e=>aK.Le n0 e (E i)
def EF{P:Program}{I:bg}{ι:Type}{n0:Nat}{J:ι->Prop}{S:ι->St}{E:ι->aK}{K:ι->Nat}{c:Code}{ir:Bool}(u:I.G<=n0)
  (h:∀i,J i->∃e,eW P I ir (.code c) (S i) e/\Round n0 J S E K i e):
  ∀m i,J i->K i<m->∀t,t= .inLoop c∨t= .code (.loop c)->∀ro n d ρ a w,(ir=false->ro=B_)->d.G=I.G->(∀l,d.E l->l<n0)->cL d ρ (S i) a w->gE (WF ro) n P t ((E i).lN n0 d ρ) a w:=by
 intro m
 induction m with
 |zero=>omega
 |succ m L=>
  intro i N hi t ht ro n d ρ a w k hG o Q;obtain⟨e,R,q⟩:=h i N;refine oE t ht ?_;have T:c.wpIn (WF ro) n P (e.post d ρ) a w:=R ro n d ρ a w k hG Q;refine wpIn_mono T λx a1 U b=>?_
  have f:d.G<=n0:=by rw[hG];exact u
  cases e with
  |n s=>
   cases x with
   |normal=>obtain⟨V,hx,y⟩:=b;obtain⟨j,C,W,D,F⟩:=q;obtain⟨H,h3,h4⟩:=y.view D f o;have:=L j C O (.inLoop c) (.inl A) ro n d H a1 U k hG o h4;rw[F]at this;exact this.mono λx a w b=>aK.jQ ((jI.of hx).trans h3) b
   |_=>exact b.elim
  |x i s=>
   cases x with
   |exit id=>exact aK.j9 q f o (aK.j8 b)
   |_=>exact b.elim
  |g i s=>
   cases x with
   |goto id=>exact aK.j9 q f o (aK.j8 b)
   |_=>exact b.elim
  |r s=>
   cases x with
   |ret=>exact aK.j9 q f o (aK.j8 b)
   |_=>exact b.elim
  |p v s=>simp only[Round,aK.Le]at q
def th{P I ι s J S E}(j){c ir}{i:ι}(b:I.G<=s.H.n)(o:J i)(start:St.Le s.H.n s (S i))
  (d:∀i,J i->∃e,eW P I ir (.code c) (S i) e/\Round s.H.n J S E j i e):eW P I ir (.code (.loop c)) s (E i):=by
 intro ro n k ρ a w f hG g;have m:∀l,k.E l->l<s.H.n:=λl hl=>(g.heap.env l hl).1
 obtain⟨h,p,q⟩:=g.view start (by rw[hG];exact b) m;have:=EF b d (j i+1) i o (Nat.lt_succ_self _) _ (.inr A) ro n k h a w f hG m q;exact this.mono λx a w r=>aK.pM g.heap A (aK.jQ p r)
section
theorem Oper.ti{F:Fence}{n:Nat}{P:Program}{o:Oper}{a:Act}{w:World}{K:Act->World->Prop}{Q c:Exit->Act->World->Prop}(h:∀x a w,x≠ .normal->Q x a w->c x a w)
  (b:o.wpIn F n P a w K Q):o.wpIn F n P a w K c:=by
 unfold Oper.wpIn at*;refine⟨b.1,?_⟩;have b:=b.2;have out:LetsOut Q->LetsOut c:=λ⟨a,w,e⟩=>⟨a,w,h _ _ _ zA e⟩
 generalize (o.semAt F.round a.eval).run P w=r at*;cases r with
 |ok x w'=>
  cases x<;>simp only[Oper.uponIn]at b⊢ <;>
   first
    |exact b
    |exact⟨b.1,CallsIn.mono b.2 Y⟩
    |exact⟨b.1,RoundIn.mono b.2 Y⟩
 |halt x w'=>cases x<;>simp only[Oper.uponIn]at b⊢ <;>first|grind|exact b
section
variable {P:Program} {I:bg} {ops:Array Oper} {o:Oper}
theorem Kg(a:ops.back? =c_ o):ops.size=ops.pop.size+1/\ops[ops.pop.size]? =c_ o/\∀i,i<ops.pop.size->ops.pop[i]? =ops[i]? :=by
 grind
theorem PQ{ro:Option Nat}{n:Nat}{Q1 Q:Exit->Act->World->Prop}(g:ops.back? =c_ o)(hplan:iG I ops (bA ops)=true)(v:iG I ops.pop (bA ops.pop)=true)
  (K:∀i,i<ops.pop.size->(bA ops).pre i ops.pop.size=true) (hg:∀d∈ops.pop.toList,∀j b,d.guard=c_ (j,b)->j<ops.pop.size)
  (hQ:∀x a w,x≠ .normal->Q1 x a w->Q x a w) (hN:∀a w,Q1 .normal a w->wpOpIn (WF ro) n P ops Q ops.pop.size (λa w=>Q .normal a w) a w):
  ∀(fuel:Nat)(listed:Array Bool)(a:Act)(w:World),listed.size=ops.pop.size->
   (∀j d,ops.pop[j]? =c_ d->dW listed j->∀e∈d.after,Region.binds .any e=true->dW listed e.on)->
   wpAnyIn (WF ro) n P .any ops.pop Q1 fuel listed a w->wpAnyIn (WF ro) n P .any ops Q (fuel+1) (listed.push false) a w:=by
 obtain⟨ap,p,s⟩:=Kg g;have f:∀(listed:Array Bool)(b:Bool) i,i<listed.size->(dW (listed.push b) i↔dW listed i):=λlisted b i hi=>by unfold dW;rw[M,M,h_,if_neg O]
 have q:∀j d,ops[j]? =c_ d->∀e∈d.after,Region.binds .any e=true->e.on<j:=λj d k e l g=>jP hplan k l g
 have E:∀(listed:Array Bool) i,listed.size=ops.pop.size->i<ops.pop.size->(i∈Region.ready .any ops (listed.push false)↔i∈Region.ready .any ops.pop listed):=by
  intro listed i c hi;rw[mem_ready,mem_ready,s i hi];have e1:(listed.push false).getD i true=listed.getD i true:=by rw[M,M,h_,if_neg O]
  rw[e1];constructor
  ·rintro⟨r,d,k,y⟩
   refine⟨r,d,k,λe l g=>?_⟩;have:=q i d k e l g;have h3:=y e l g;exact(f listed false e.on O).1 h3
  ·rintro⟨r,d,k,y⟩
   refine⟨r,d,k,λe l g=>?_⟩;have:=q i d k e l g;exact(f listed false e.on O).2 (y e l g)
 have t:∀(listed:Array Bool),listed.size=ops.pop.size->(∀i,i<ops.pop.size->dW listed i)->ops.pop.size∈Region.ready .any ops (listed.push false):=by
  intro listed c hl;rw[mem_ready];refine⟨?_,o,p,λe l g=>?_⟩
  ·rw[M,h_,if_pos O];rfl
  ·have:=q _ o p e l g;exact(f listed false e.on O).2 (hl e.on this)
 have done:∀(listed:Array Bool),listed.size=ops.pop.size->(∀i,i<ops.pop.size->dW listed i)->Region.ready .any ops ((listed.push false).setIfInBounds ops.pop.size true)=[]:=by
  intro listed c hl;apply List.eq_nil_iff_forall_not_mem.2;intro i hi;rw[mem_ready]at hi;obtain⟨r,d,k,_⟩:=hi;have C:=(Array.getElem?_eq_some_iff.1 k).1;by_cases e:i=ops.pop.size
  ·subst e;rw[M,a_]at r;simp[c]at r
  ·have:=hl i O;unfold dW at this;rw[M,a_,if_neg (λW=>e W.symm),h_,if_neg O]at r;rw[M,z O]at this
   grind
 have allOf:∀(listed:Array Bool),listed.size=ops.pop.size->(∀j d,ops.pop[j]? =c_ d->dW listed j->∀e∈d.after,Region.binds .any e=true->dW listed e.on)->ops.pop.size∈Region.ready .any ops (listed.push false)->∀i,i<ops.pop.size->dW listed i:=by
  intro listed c D F i hi;rw[mem_ready]at F;obtain⟨_,d,k,y⟩:=F;refine kZ (listed:=dW listed) hplan (λj u T hl e l g=>?_) k (λe l g=>?_) i (K i hi)
  ·have a6:j<ops.pop.size:=by
    rcases o_ j ops.pop.size with h|h
    ·exact h
    ·unfold dW at hl
     grind
   grind
  ·have:=q _ d k e l g;exact(f listed false e.on O).1 (y e l g)
 have m:∀(listed:Array Bool),listed.size=ops.pop.size->Region.ready .any ops.pop listed=[]->∀i,i<ops.pop.size->dW listed i:=by
  intro listed c F i
  induction i using i_ with
  |_ i X=>
   intro hi;apply b_;intro hn;have:i∈Region.ready .any ops.pop listed:=by
    refine mem_ready.2 ⟨?_,ops.pop[i],z hi,λe l g=>?_⟩
    ·unfold dW at hn
     grind
    ·have Y:=jP v (z hi) l g;exact X e.on Y O
   grind
 have last:∀(fuel:Nat)(listed:Array Bool)(a:Act)(w:World),listed.size=ops.pop.size->(∀i,i<ops.pop.size->dW listed i)->Q1 .normal a w->
   wpOpIn (WF ro) n P ops Q ops.pop.size (wpAnyIn (WF ro) n P .any ops Q fuel ((listed.push false).setIfInBounds ops.pop.size true)) a w:=by
  intro fuel listed a w c hl U;have hd:=done listed c hl;have V:∀a w,Q .normal a w->wpAnyIn (WF ro) n P .any ops Q fuel ((listed.push false).setIfInBounds ops.pop.size true) a w:=λa w U=>by
   cases fuel with
   |zero=>exact⟨hd,U⟩
   |succ fuel=>exact⟨λ_=>U,λi hi=>by rw[hd]at hi;cases hi⟩
  have:=hN a w U;unfold wpOpIn at this⊢;rw[p]at this⊢;simp only at this⊢;split at this
  ·rename_i L;rw[if_pos L];exact Oper.wpIn_mono V this
  ·grind
 intro fuel
 induction fuel with
 |zero=>
  intro listed a w c D h;obtain⟨r,y⟩:=h;have hl:=m listed c r;refine⟨λF=>?_,λi hi=>?_⟩
  grind
  ·by_cases e:i<ops.pop.size
   ·have:=(E listed i c e).1 hi;rw[r]at this;cases this
   ·obtain⟨_,d,k,_⟩:=mem_ready.1 hi;have:i<ops.size:=(Array.getElem?_eq_some_iff.1 k).1;have Z:i=ops.pop.size:=O;subst Z;exact last 0 listed a w c hl y
 |succ fuel X=>
  intro listed a w c D h;obtain⟨r,y⟩:=h;refine⟨λF=>?_,λi hi=>?_⟩
  ·have G:Region.ready .any ops.pop listed=[]:=by
    apply List.eq_nil_iff_forall_not_mem.2;intro i hi;obtain⟨_,d,k,_⟩:=mem_ready.1 hi;have C:=(Array.getElem?_eq_some_iff.1 k).1;have:=(E listed i c C).2 hi;rw[F]at this;cases this
   have:=t listed c (m listed c G);rw[F]at this;cases this
  ·by_cases e:i<ops.pop.size
   ·have N:=(E listed i c e).1 hi;have h3:=y i N;obtain⟨_,d,H,aa⟩:=mem_ready.1 N;have R:(listed.push false).setIfInBounds i true=(listed.setIfInBounds i true).push false:=by
     apply D_;simp only[Array.toList_setIfInBounds,Array.toList_push];rw[List.set_append_left _ _ zJ]
    have S:∀j u,ops.pop[j]? =c_ u->dW (listed.setIfInBounds i true) j->∀e∈u.after,Region.binds .any e=true->dW (listed.setIfInBounds i true) e.on:=by
     have hs:∀j,dW (listed.setIfInBounds i true) j↔j=i∨dW listed j:=λj=>by
      unfold dW;by_cases e:j=i
      ·subst e;simp[M,show j<listed.size by omega]
      ·simp only[M,a_];rw[if_neg (λW=>e W.symm)];simp[e]
     intro j u T hl ed l g;refine(hs _).2 (.inr ?_);rcases(hs j).1 hl with rfl|hl
     ·rw[H]at T;cases T;exact aa ed l g
     ·exact D j u T hl ed l g
    have V:∀a w,wpAnyIn (WF ro) n P .any ops.pop Q1 fuel (listed.setIfInBounds i true) a w->wpAnyIn (WF ro) n P .any ops Q (fuel+1) ((listed.push false).setIfInBounds i true) a w:=λa w h=>by rw[R];exact X _ a w (by simp[c]) S h
    have J:Region.wanted d (yielded ops a.tmps)=Region.wanted d (yielded ops.pop a.tmps):=by
     unfold Region.wanted;cases ad:d.guard with
     |none=>rfl
     |some jb=>
      obtain⟨j,b⟩:=jb;have hm:d∈ops.pop.toList:=by rw[y_];exact⟨i,by rw[d_];exact H⟩
      have:=hg d hm j b ad;simp only[yielded,s j this]
    unfold wpOpIn at h3⊢;rw[<-s i e];rw[H]at h3⊢;simp only at h3⊢;rw[J];split at h3
    ·rename_i L;rw[if_pos L];exact Oper.ti hQ (Oper.wpIn_mono V h3)
    ·rename_i L;rw[if_neg L];exact⟨h3.1,V _ _ h3.2⟩
   ·obtain⟨_,d,k,_⟩:=mem_ready.1 hi;have:i<ops.size:=(Array.getElem?_eq_some_iff.1 k).1;have Z:i=ops.pop.size:=O;subst Z;have hl:=allOf listed c D hi;have G:Region.ready .any ops.pop listed=[]:=by
     apply List.eq_nil_iff_forall_not_mem.2;intro i hi;obtain⟨h0,d,k,_⟩:=mem_ready.1 hi;have C:=(Array.getElem?_eq_some_iff.1 k).1;have:=hl i C;unfold dW at this;rw[M,z O]at h0 this;simp at h0 this;rw[h0]at this;cases this
    exact last (fuel+1) listed a w c hl (r G)
end
section
variable {R:Type} {X:RI R} {sem:R->Prop} (hX:X.Ok sem) {I:bg} {P:Program} (hI:I.Ok P)
include hX hI in
theorem vm(N:Nat):qJ P I sem (yl X I N):=by
 intro m round f d ops k s h;unfold yl at h;cases ht:HG I ops with
 |false=>rw[ht]at h;exact PL hX hI N m round f d ops k s h
 |true=>
  rw[ht,cond_true]at h;obtain⟨sf,J,O⟩:=vj hX hI N f d h;unfold HG at ht;split at ht
  ·cases ht
  ·rename_i o v;simp only[ba]at ht;obtain⟨⟨⟨⟨_,y⟩,C⟩,p⟩,R⟩:=ht;obtain⟨q,g,r⟩:=Kg v;simp only[v]at J;have l:ops.toList.drop ops.pop.size=[o]:=by
    have D:ops.toList=ops.pop.toList++[o]:=by
     apply List.ext_getElem?;intro i;rcases C_ i ops.pop.size with e|e|e
     ·rw[List.getElem?_append_left (by simpa using e),d_,d_,r i e]
     ·subst e;rw[List.getElem?_append_right zA,d_,g];simp
     ·rw[z_ (by simp at e⊢;omega),z_ (by simp at e⊢;omega)]
    rw[D,List.drop_append_of_le_length zA,List.drop_of_length_le zA];rfl
   obtain⟨e,h3,h4⟩:=tV hX hI f d [o] ops.pop.size sf l J;refine⟨e,h3,λro n c ρ a w id hG S=>wpIn_region_any hI.mixed ?_⟩;have t:=O ro n c ρ a w hG S;have u:f_ ops.size false=(f_ ops.pop.size false).push false:=by apply D_;rw[q];simp[List.replicate_succ']
   rw[u,q];refine PQ (Q1:=(aK.n sf).post c ρ) (Q:=e.post c ρ) v y C (λi hi=>List.all_eq_true.1 p i (List.mem_range.2 hi)) (λK E j b F=>?_) (λx a w hx G=>?_) (λa w G=>?_) ops.pop.size _ a _ zA (λj K _ hl=>?_) t
   ·have:=List.all_eq_true.1 R K E;rw[F]at this;simpa using this
   ·cases x<;>first|exact absurd A hx|exact G.elim
   ·obtain⟨ρ',hx,H⟩:=G;have:=h4 ro n c ρ' a w (e.post c ρ) hG H λx a' w' y=>aK.gZ hx y
    have D:List.range' ops.pop.size [o].length=[ops.pop.size]:=rfl;rw[D,wpOpsIn_cons]at this;exact this
   ·exfalso;unfold dW at hl;rw[M,j_]at hl;by_cases L:j<ops.pop.size
    ·rw[if_pos L]at hl;cases hl
    ·rw[if_neg L]at hl;cases hl
end
section
variable {P:Program} {I:bg} {ops:Array Oper} {o:Oper} {y:Nat}
theorem Uq{ro:Option Nat}{n:Nat}{Q1 Q:Exit->Act->World->Prop}(Z:ops[y]? =c_ o)(hplan:iG I ops (bA ops)=true)(E:iG I (ops.extract 0 y) (bA (ops.extract 0 y))=true)
  (U:∀i,i<y->(bA ops).pre i y=true) (a7:∀i,y<i->i<ops.size->(bA ops).pre y i=true) (hg:∀f∈(ops.extract 0 y).toList,∀j b,f.guard=c_ (j,b)->j<y)
  (hQ:∀x a w,x≠ .normal->Q1 x a w->Q x a w) (hN:∀a w,Q1 .normal a w->wpOpIn (WF ro) n P ops Q y (λ_ _=>False) a w) (m:Nat):
  ∀(fuel:Nat)(listed L:Array Bool)(a:Act)(w:World),listed.size=y->L.size=ops.size->(∀i,i<y->(dW L i↔dW listed i))->(∀i,y<=i->¬ dW L i)->
   (∀j f,(ops.extract 0 y)[j]? =c_ f->dW listed j->∀e∈f.after,Region.binds .any e=true->dW listed e.on)->
   wpAnyIn (WF ro) n P .any (ops.extract 0 y) Q1 fuel listed a w->wpAnyIn (WF ro) n P .any ops Q (fuel+(m+1)) L a w:=by
 have bq:y<ops.size:=(Array.getElem?_eq_some_iff.1 Z).1;have bs:(ops.extract 0 y).size=y:=by simp;omega
 have u:∀i,i<y->(ops.extract 0 y)[i]? =ops[i]? :=λi hi=>by
  grind
 have J:∀j f,ops[j]? =c_ f->∀e∈f.after,Region.binds .any e=true->e.on<j:=λj f D e s t=>jP hplan D s t
 have F:∀(L:Array Bool) i,i<L.size->(L.getD i true=false↔ ¬ dW L i):=λL i hi=>by
  unfold dW
  grind
 have N:∀(listed L:Array Bool) i,listed.size=y->L.size=ops.size->(∀i,i<y->(dW L i↔dW listed i))->i<y->(i∈Region.ready .any ops L↔i∈Region.ready .any (ops.extract 0 y) listed):=by
  intro listed L i k r d hi;rw[mem_ready,mem_ready,u i hi,F L i O,F listed i O,d i hi];constructor
  ·grind
  ·grind
 have G:∀(listed L:Array Bool),L.size=ops.size->(∀i,i<y->(dW L i↔dW listed i))->(∀i,y<=i->¬ dW L i)->(∀i,i<y->dW listed i)->y∈Region.ready .any ops L:=by intro listed L r d g hl;rw[mem_ready,F L y O];refine⟨g y (dP _),o,Z,λe s t=>?_⟩;have:=J _ o Z e s t;exact Y
 have bd:∀(listed L:Array Bool),(∀i,i<y->(dW L i↔dW listed i))->(∀i,y<=i->¬ dW L i)->(∀j f,(ops.extract 0 y)[j]? =c_ f->dW listed j->∀e∈f.after,Region.binds .any e=true->dW listed e.on)->
   ∀j f,ops[j]? =c_ f->dW L j->∀e∈f.after,Region.binds .any e=true->dW L e.on:=by
  intro listed L d g p j f v hl e s t;have b0:j<y:=Y;have:=J j f v e s t;exact Y
 have l:∀(listed L:Array Bool),L.size=ops.size->(∀i,i<y->(dW L i↔dW listed i))->(∀i,y<=i->¬ dW L i)->(∀j f,(ops.extract 0 y)[j]? =c_ f->dW listed j->∀e∈f.after,Region.binds .any e=true->dW listed e.on)->
   ∀i,i∈Region.ready .any ops L->¬ i<y->i=y:=by
  intro listed L r d g p i hi b1;obtain⟨_,f,D,R⟩:=mem_ready.1 hi;have aa:=(Array.getElem?_eq_some_iff.1 D).1;apply b_;intro b2;exact g y (dP _) (kZ (listed:=dW L) hplan Y D (λe s t=>R e s t) y Y)
 have C:∀(listed:Array Bool),listed.size=y->Region.ready .any (ops.extract 0 y) listed=[]->∀i,i<y->dW listed i:=by
  intro listed k H i
  induction i using i_ with
  |_ i ih=>
   intro hi;apply b_;intro hn;have:i∈Region.ready .any (ops.extract 0 y) listed:=by refine mem_ready.2 ⟨Y,(ops.extract 0 y)[i]'O,z O,λe s t=>?_⟩;have b3:=jP E (z O) s t;exact Y
   grind
 have allOf:∀(listed L:Array Bool),listed.size=y->L.size=ops.size->(∀i,i<y->(dW L i↔dW listed i))->(∀i,y<=i->¬ dW L i)->(∀j f,(ops.extract 0 y)[j]? =c_ f->dW listed j->∀e∈f.after,Region.binds .any e=true->dW listed e.on)->
   y∈Region.ready .any ops L->∀i,i<y->dW listed i:=by
  intro listed L k r d g p H i hi;obtain⟨_,f,D,R⟩:=mem_ready.1 H;exact(d i hi).1 (kZ (listed:=dW L) hplan Y D (λe s t=>R e s t) i (U i hi))
 have last:∀(K:Act->World->Prop)(a:Act)(w:World),Q1 .normal a w->wpOpIn (WF ro) n P ops Q y K a w:=by
  intro K a w hq;have:=hN a w hq;unfold wpOpIn at this⊢;rw[Z]at this⊢;simp only at this⊢;split at this
  ·rename_i V;rw[if_pos V];exact Oper.wpIn_mono (λ_ _ h=>h.elim) this
  ·exact this.2.elim
 have q:∀(listed L:Array Bool),listed.size=y->L.size=ops.size->(∀i,i<y->(dW L i↔dW listed i))->(∀i,y<=i->¬ dW L i)->Region.ready .any ops L≠[]:=by
  intro listed L k r d g H;have hn:Region.ready .any (ops.extract 0 y) listed=[]:=by apply List.eq_nil_iff_forall_not_mem.2;intro i hi;obtain⟨_,f,D,_⟩:=mem_ready.1 hi;have aa:=(Array.getElem?_eq_some_iff.1 D).1;have:=(N listed L i k r d O).2 hi;rw[H]at this;cases this
  have:=G listed L r d g (C listed k hn);rw[H]at this;cases this
 intro fuel
 induction fuel with
 |zero=>
  intro listed L a w k r d g p h;obtain⟨h1,R⟩:=h;rw[w_];refine⟨λH=>absurd H (q listed L k r d g),λi hi=>?_⟩;by_cases e:i<y
  ·have:=(N listed L i k r d e).1 hi;rw[h1]at this;cases this
  ·have:=l listed L r d g p i hi e;subst this;exact last _ a w R
 |succ fuel ih=>
  intro listed L a w k r d g p h;obtain⟨h1,R⟩:=h;have e1:fuel+1+(m+1)=(fuel+(m+1))+1:=O;rw[e1];refine⟨λH=>absurd H (q listed L k r d g),λi hi=>?_⟩;by_cases e:i<y
  ·have W:=(N listed L i k r d e).1 hi;have h3:=R i W;obtain⟨_,f,S,ad⟩:=mem_ready.1 W;have X:∀(c:Array Bool) j,i<c.size->(dW (c.setIfInBounds i true) j↔j=i∨dW c j):=λc j hA=>by
    unfold dW;by_cases e:j=i
    ·subst e;simp[M,hA]
    ·simp only[M,a_];rw[if_neg (λe'=>e e'.symm)];simp[e]
   have hK:∀a w,wpAnyIn (WF ro) n P .any (ops.extract 0 y) Q1 fuel (listed.setIfInBounds i true) a w->wpAnyIn (WF ro) n P .any ops Q (fuel+(m+1)) (L.setIfInBounds i true) a w:=λa w h=>by
    refine ih _ _ a w (by simp[k]) (by simp[r]) (λj v=>?_) (λj v hl=>?_) (λj ap v hl ed s t=>?_) h
    ·rw[X L j O,X listed j O,d j v]
    ·rcases(X L j O).1 hl with e2|e2
     ·omega
     ·exact g j v e2
    ·refine(X listed _ O).2 (.inr ?_);rcases(X listed j O).1 hl with rfl|hl
     ·rw[S]at v;cases v;exact ad ed s t
     ·exact p j ap v hl ed s t
   have T:Region.wanted f (yielded ops a.tmps)=Region.wanted f (yielded (ops.extract 0 y) a.tmps):=by
    unfold Region.wanted;cases a6:f.guard with
    |none=>rfl
    |some jb=>
     obtain⟨j,b⟩:=jb;have hm:f∈(ops.extract 0 y).toList:=by rw[y_];exact⟨i,by rw[d_];exact S⟩
     have:=hg f hm j b a6;simp only[yielded,u j this]
   unfold wpOpIn at h3⊢;rw[<-u i e];rw[S]at h3⊢;simp only at h3⊢;rw[T];split at h3
   ·rename_i V;rw[if_pos V];exact Oper.ti hQ (Oper.wpIn_mono hK h3)
   ·rename_i V;rw[if_neg V];exact⟨h3.1,hK _ _ h3.2⟩
  ·have:=l listed L r d g p i hi e;subst this;have hl:=allOf listed L k r d g p hi;have hn:Region.ready .any (ops.extract 0 i) listed=[]:=by
    apply List.eq_nil_iff_forall_not_mem.2;intro j v;obtain⟨h0,f,D,_⟩:=mem_ready.1 v;have b4:=(Array.getElem?_eq_some_iff.1 D).1;exact(F listed j O).1 h0 (hl j O)
   exact last _ a w (h1 hn)
end
def cutAt(a:List Nat):List Oper->Nat->Option Nat
 |[],_=>B_
 |o::os,i=>match o.op with
  | .call {callee:=.value (.func f),..}=>bif vi a f then c_ i else cutAt a os (i+1)
  |_=>cutAt a os (i+1)
def PS(I:bg)(ops:Array Oper)(y:Nat):Bool :=
 iG I ops (bA ops)&&iG I (ops.extract 0 y) (bA (ops.extract 0 y))&&(t_ y).all (λi=>(bA ops).pre i y)&&(t_ ops.size).all (λi=>!Nat.blt y i||(bA ops).pre y i)&&(ops.extract 0 y).toList.all (λo=>match o.guard with|none=>true|some (j,_)=>s_ j y)
section
variable {R:Type} (X:RI R) (I:bg)
def yn(N:Nat)(b:List Nat):qI R:=λa round ops k s=>
 match cutAt b ops.toList 0 with
 |none=>yl X I N a round ops k s
 |some y=>match ops[y]? with
  |none=>X.fail
  |some o=>bif PS I ops y then
    drawn X I N a round (ops.extract 0 y) {k with n:=λc=>oc X I a round ops {k with n:=λ_=>yl X I N a round ops k s} [o] c} s
   else yl X I N a round ops k s
end
section
variable {R:Type} {X:RI R} {sem:R->Prop} (hX:X.Ok sem) {I:bg} {P:Program} (hI:I.Ok P)
include hX hI in
theorem PT{i:j6 R}(x:jq P I sem i){round:iU R}(r:iV P I sem round){ops:Array Oper}{k:KS R}{o:Oper}{y:Nat}(L:ops[y]? =c_ o){s:St}(h:sem (oc X I i round ops k [o] s)):
  ∃e:aK,e.sem sem k/\((∃q,e= .n q)∨∃v q,e= .p v q)/\∀ro n c ρ a w,c.G=I.G->cL c ρ s a w->wpOpIn (WF ro) n P ops (e.post c ρ) y (λa w=>e.post c ρ .normal a w) a w:=by
 have run:∀s:St,sem (Uj X I i round o (s.ev I.G) s.H (λa H=>oc X I i round ops k [] ((s.heap H).put o.dst a)) (λa H=>k.p a (s.heap H)))->
   ∃e:aK,e.sem sem k/\((∃q,e= .n q)∨∃v q,e= .p v q)/\∀ro n c ρ a w,c.G=I.G->cL c ρ s a w->Region.wanted o (yielded ops a.tmps)=true->wpOpIn (WF ro) n P ops (e.post c ρ) y (λa w=>e.post c ρ .normal a w) a w:=by
  intro s h;obtain⟨out,l,m⟩:=Hy hX hI x r h;cases out with
  |ret v H'=>
   refine⟨.n _,l,.inl ⟨_,rfl⟩,λro n c ρ a w hG f E=>?_⟩;unfold wpOpIn;rw[L];simp only[E,if_true];refine m ro n c ρ w a _ _ hG (f.ev hG) f.heap (λN H2 u w' ρ' C hx D O=>?_) λN H2 u w' ρ' C=>by cases C
   cases C;exact⟨ρ',hx,f.put hx D O o.dst⟩
  |rL v H'=>
   refine⟨.p v (s.heap H'),l,.inr ⟨_,_,rfl⟩,λro n c ρ a w hG f E=>?_⟩;unfold wpOpIn;rw[L];simp only[E,if_true];refine m ro n c ρ w a _ _ hG (f.ev hG) f.heap (λN H2 u w' ρ' C=>by cases C) λN H2 u w' ρ' C hx D O=>?_
   cases C;exact⟨ρ',u,rfl,hx,⟨f.tmp.ext hx,D,f.df.ext hx⟩,O⟩
 have skip:∀s:St,sem (oc X I i round ops k [] (s.put o.dst (.bM [])))->
   ∃e:aK,e.sem sem k/\((∃q,e= .n q)∨∃v q,e= .p v q)/\∀ro n c ρ a w,c.G=I.G->cL c ρ s a w->Region.wanted o (yielded ops a.tmps)=false->wpOpIn (WF ro) n P ops (e.post c ρ) y (λa w=>e.post c ρ .normal a w) a w:=by
  intro s h;refine⟨.n _,h,.inl ⟨_,rfl⟩,λro n c ρ a w hG f E=>?_⟩;unfold wpOpIn;rw[L];simp only[E,lu,if_false];exact⟨λ_ _=>trivial,ρ,Ext.refl ρ,f.put (Ext.refl ρ) f.heap xY o.dst⟩
 simp only[oc]at h;split at h
 ·rename_i J;obtain⟨e,l,m,h3⟩:=run s h;exact⟨e,l,m,λro n c ρ a w hG f=>h3 ro n c ρ a w hG f (by simp[Region.wanted,J])⟩
 ·rename_i j t J;split at h
  ·exact zR
  ·rename_i d Q;split at h
   ·rename_i b K;have F:=hX.cond _ _ _ h;have g:∀c ρ a w,cL c ρ s a w->Region.wanted o (yielded ops a.tmps)=(b==t):=λc ρ a w f=>rN J Q (by
     have:=f.tmp.2 d;rw[K]at this;simpa only[VR]using this)
    have lit:∀c ρ a w,cL c ρ s a w->cL c ρ (s.put (c_ d) (.bool b)) a w:=λc ρ a w f=>f.lit K
    cases b<;>cases t<;>simp only[if_true,lu,if_false,cond_true,cond_false]at F
    ·obtain⟨e,l,m,h3⟩:=run _ F;exact⟨e,l,m,λro n c ρ a w hG f=>h3 ro n c ρ a w hG (lit c ρ a w f) (by rw[g c ρ a w f];rfl)⟩
    ·obtain⟨e,l,m,h3⟩:=skip _ F;exact⟨e,l,m,λro n c ρ a w hG f=>h3 ro n c ρ a w hG (lit c ρ a w f) (by rw[g c ρ a w f];rfl)⟩
    ·obtain⟨e,l,m,h3⟩:=skip _ F;exact⟨e,l,m,λro n c ρ a w hG f=>h3 ro n c ρ a w hG (lit c ρ a w f) (by rw[g c ρ a w f];rfl)⟩
    ·obtain⟨e,l,m,h3⟩:=run _ F;exact⟨e,l,m,λro n c ρ a w hG f=>h3 ro n c ρ a w hG (lit c ρ a w f) (by rw[g c ρ a w f];rfl)⟩
   ·rename_i K;obtain⟨e,l,m,h3⟩:=skip s h;refine⟨e,l,m,λro n c ρ a w hG f=>h3 ro n c ρ a w hG f (pG J Q ?_)⟩;have:=f.tmp.2 d;rw[K]at this;simp only[VR]at this;obtain⟨vs,T,S⟩:=this;simp only[aV]at S;subst S;exact T
   ·exact zR
include hX hI in
theorem vn(N:Nat)(C:List Nat):qJ P I sem (yn X I N C):=by
 intro l round f d ops k s h;unfold yn at h;split at h
 ·exact vm hX hI N l round f d ops k s h
 ·rename_i y Y;split at h
  ·exact zR
  ·rename_i o G;cases D:PS I ops y with
   |false=>rw[D]at h;exact vm hX hI N l round f d ops k s h
   |true=>
    rw[D,cond_true]at h;obtain⟨sf,J,K⟩:=vj hX hI N f d h;unfold PS at D;simp only[ba]at D;obtain⟨⟨⟨⟨L,R⟩,E⟩,F⟩,hg⟩:=D;have aa:y<ops.size:=(Array.getElem?_eq_some_iff.1 G).1;have S:(ops.extract 0 y).size=y:=by simp;omega
    obtain⟨e,h3,t,h4⟩:=PT hX hI f d G J;cases e with
    |n s2=>exact vm hX hI N l round f d ops k s h3
    |p v s2=>
     refine⟨.p v s2,h3,λro n c ρ a w id hG hr=>wpIn_region_any hI.mixed ?_⟩;have q:=K ro n c ρ a w hG hr;rw[S]at q;have H:∀m i,¬ dW (f_ m false) i:=λm i hl=>by
      unfold dW at hl;rw[M,j_]at hl;by_cases Z:i<m
      ·rw[if_pos Z]at hl;cases hl
      ·rw[if_neg Z]at hl;cases hl
     obtain⟨m,hm⟩:∃m,ops.size=y+(m+1):=⟨ops.size-y-1,O⟩;have:=Uq (Q1:=(aK.n sf).post c ρ) (Q:=(aK.p v s2).post c ρ) G L R (λi hi=>List.all_eq_true.1 E i (List.mem_range.2 hi)) (λi J K=>?_) (λo' T j b U=>?_) (λx a w hx V=>?_) (λa w V=>?_) m y _ (f_ ops.size false) a _ zA zA (λi hi=>?_) (λi _=>H _ i) (λj o' _ hl=>absurd hl (H _ j)) q
     ·rw[<-hm]at this;exact this
     ·have:=List.all_eq_true.1 F i (List.mem_range.2 K);have hb:s_ y i=true:=by rw[m_];exact J
      rw[hb]at this;simpa using this
     ·have:=List.all_eq_true.1 hg o' T;rw[U]at this;simpa using this
     ·cases x<;>first|exact absurd A hx|exact V.elim
     ·obtain⟨ρ',hx,W⟩:=V;have u:=h4 ro n c ρ' a w hG W;unfold wpOpIn at u⊢;rw[G]at u⊢;simp only at u⊢;split at u
      ·rename_i hw;rw[if_pos hw];exact Oper.ti (λx a w _ L=>aK.gZ hx L) (Oper.wpIn_mono (λ_ _ h=>h.elim) u)
      ·exact u.2.elim
     ·exact⟨λh=>absurd h (H _ i),λh=>absurd h (H _ i)⟩
    |x i s2=>rcases t with⟨_,e⟩|⟨_,_,e⟩<;>cases e
    |g i s2=>rcases t with⟨_,e⟩|⟨_,_,e⟩<;>cases e
    |r s2=>rcases t with⟨_,e⟩|⟨_,_,e⟩<;>cases e
end
end
end
end Go.Sx
