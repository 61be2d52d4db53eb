/- The proof of a statement of the seat, part 38. -/
import Derived.Test.YtleifmkjbmhlpaaGreatDoorX37
import Derived.Test.YtleifmkjbmhlpaaGreatDoorX28
set_option linter.all false
set_option linter.defProp false
set_option maxRecDepth 1000000
namespace Go.Sx
open Go
open AV renaming int->M,bW->c_,str->e_
open Go.IntKind renaming i64->z
open Nat renaming blt->a_,blt_eq->n_,ble->o_,lt_of_not_le->q_,beq->u_,zero_add->v_
open List renaming drop->b_,take->d_,length_singleton->g_,drop_eq_nil_of_le->l_,length_append->m_,length_cons->p_
open Decidable renaming decide->f_
open Bool renaming and_true->h_
open Tr renaming ofList->i_,bk->x_,nK->y_
open AH renaming aL->j_,get_set_same->k_,bz->r_,bk->s_,get->w_,gR->z_
noncomputable section
section
def af.aaG{P I f args a H0 H m}(h:af P I f args H0 (.ret a H0))(t:H0.n=m)(C:I.G<=m)(D:m<=H.n)(o:∀i,m<=i->H0.get i= .dead)
  (q:∀i,i<m->H0.get i≠ .dead->H.get i=H0.get i/\∀σ,(∀j,j<m->σ j=j)->(H0.get i).bx σ=H0.get i) (s:∀σ,bj.bx σ args=args) (ha:∀σ,a.bx σ=a):
  af P I f args H (.ret a H):=by
 intro c ρ w vs hG E u
 let σ:Nat->Nat:=λl=>if l<m then l else H.n+(l-m)
 have b:∀i,i<m->σ i=i:=λi hi=>by simp only[σ,if_pos hi]
 have d:∀i,H0.get i≠ .dead->i<m:=λi hi=>q_ λe=>hi (o i e)
 have v:∀l,H0.get l≠ .dead->H.get (σ l)=(H0.get l).bx σ:=λl hl=>by obtain⟨F,J⟩:=q l (d l hl) hl;rw[b l (d l hl),J σ b,F]
 have K:Sub I.G σ H0 H :=
  {lt:=λl hl=>by rw[t]at hl;rw[b l hl];omega
   ge:=λl hl=>by rw[t]at hl⊢;have :¬ l<m:=Nat.not_lt.2 hl;simp only[σ,if_neg this]
   same:=v
   inj:=λl y L N e=>by rw[b l (d l L),b y (d y N)]at e;exact e
   eZ:=λg Q=>⟨by rw[t];omega,b g O⟩
   low:=λl hl=>o l (by rw[t]at hl;exact hl)}
 have ht:EE σ H0 (CO.ret a H0).heap H H :=
  {n:=by show H.n=H.n+(H0.n-H0.n);omega
   old:=v
   new:=λl hl=>by rw[t]at hl;have :¬ l<m:=Nat.not_lt.2 hl;show H.get (σ l)=(H0.get l).bx σ;rw[o l hl];simp only[σ,if_neg this];rw[u.low _ O];rfl
   rest:=λ_ _ _=>rfl}
 have:=h.lift K ht;rw[s]at this;have e:(CO.ret a H0).jt σ H= .ret a H:=by show CO.ret (a.bx σ) H=_;rw[ha]
 rw[e]at this;exact this c ρ w vs hG E u
def Jk(i):Hs.get i=if i=13 then Hs.get 13 else if i=3 then Hs.get 3 else if i=2 then .cells bG .ro else if i=1 then Hs.get 1 else if i=0 then Hs.get 0 else .dead:=by
 by_cases h1:i=13
 ·rw[if_pos h1,h1]
 by_cases h3:i=3
 ·rw[if_neg h1,if_pos h3,h3]
 by_cases h4:i=2
 ·rw[if_neg h1,if_neg h3,if_pos h4,h4];rfl
 by_cases a:i=1
 ·rw[if_neg h1,if_neg h3,if_neg h4,if_pos a,a]
 by_cases b:i=0
 ·rw[if_neg h1,if_neg h3,if_neg h4,if_neg a,if_pos b,b]
 rw[if_neg h1,if_neg h3,if_neg h4,if_neg a,if_neg b];unfold Hs;simp only[w_,i_,x_,y_];simp[h1,h3,h4,a,b]
def uO{P:Nat->aae->Prop}(b:P 0 (Hs.get 0))(c:P 1 (Hs.get 1))(d:P 2 (.cells bG .ro))(h3:P 3 (Hs.get 3))(a:P 13 (Hs.get 13))(e:∀i,P i .dead)(i):P i (Hs.get i):=by
 rw[Jk];split
 ·rename_i h;rw[h];exact a
 split
 ·rename_i h;rw[h];exact h3
 split
 ·rename_i h;rw[h];exact d
 split
 ·rename_i h;rw[h];exact c
 split
 ·rename_i h;rw[h];exact b
 exact e i
open Classical in
def K8{H:AH}(h:SV H=true):14<=H.n/\∀i,Hs.get i≠ .dead->H.get i=Hs.get i:=by
 unfold SV Jj at h;simp only[ba,bl]at h;obtain⟨⟨a,c⟩,h3,h4,d,f⟩:=h;refine⟨fT a,λi=>?_⟩;exact uO (P:=λi b=>b≠ .dead->H.get i=b) (λ_=>h3) (λ_=>h4) (λ_=>kK c) (λ_=>d) (λ_=>f) (λi e=>absurd A e) i
def D2(σ):bj.bx σ bG=bG:=by
 have:∀l:List AV,(∀a∈l,a.bx σ=a)->bj.bx σ l=l:=λl hl=>by
  induction l with
  |nil=>rfl
  |cons a l c=>show a.bx σ::bj.bx σ l=_;rw[hl a (List.mem_cons_self ..),c λb d=>hl b (List.mem_cons_of_mem _ d)]
 exact this _ λa ha=>by unfold bG at ha;obtain⟨x,_,rfl⟩:=List.mem_map.1 ha;rfl
def Y8(σ)(i):bj.le σ (aC i) (aC i):=by
 unfold aC;split
 ·exact⟨rfl,trivial,trivial⟩
 ·exact⟨rfl,⟨rfl,trivial,trivial⟩,trivial⟩
 ·exact⟨rfl,⟨rfl,trivial,trivial⟩,trivial⟩
 ·exact⟨rfl,⟨rfl,trivial,trivial⟩,trivial⟩
 ·exact⟨rfl,⟨rfl,trivial,trivial⟩,trivial⟩
def V4:af PP II 9 [] Hs (.ret (.bool true) Hs):=by
 obtain⟨o,g,h⟩:=iJ fU (ks9++[Vs ks9]) (aX PP II []) 1000 9 [] Hs (λa H=>B (SV H) (a= .bool true)) (λ_ _=>False) (by
  have:=SX λb a=>B b (a= .bool true)
  rw[this];exact ZF (by unfold Jj;simp) A)
 cases o with
 |ret a H1=>
  obtain⟨k,k1⟩:=aaZ g;have k1:a= .bool true:=k1;subst k1;obtain⟨k2,m⟩:=K8 k;refine h.le (mM.of [] (ie.of A A A (by rfl) (il k2) (fI.2 λl hl=>?_)) A);have hl:l<14:=hl;have c:∀j,j<14->sig Hs.n [] H1.n j=j:=λj p=>by unfold sig;rw[show a_ j Hs.n=true from(n_ ..).mpr p];rfl
  have d:∀b:aae,(b≠ .dead->H1.get l=b)->b.le (sig Hs.n [] H1.n) b->wm (sig Hs.n [] H1.n) H1.n l H1 b:=λb q r=>by
   unfold wm;split
   ·trivial
   ·rename_i f;rw[c l hl,if_pos O,q (λe=>f e)];exact r
  have I2:=c 13 O;refine d _ (m l) ?_;exact uO (P:=λ_ b=>b.le (sig Hs.n [] H1.n) b) ⟨⟨⟨rfl,rfl,λi _=>Y8 _ i⟩,trivial⟩,trivial⟩ ⟨⟨rfl,rfl,trivial⟩,trivial⟩ ⟨qQ _,trivial⟩ ⟨⟨I2.symm,trivial⟩,trivial⟩
   ⟨rfl,⟨⟨rfl,rfl⟩,⟨rfl,rfl⟩,⟨rfl,rfl⟩,⟨rfl,rfl⟩,⟨rfl,rfl⟩,trivial⟩,⟨⟨⟨rfl,trivial,trivial⟩,trivial⟩,⟨⟨rfl,trivial,trivial⟩,trivial⟩,⟨⟨rfl,trivial,trivial⟩,trivial⟩,⟨⟨rfl,trivial,trivial⟩,trivial⟩,⟨⟨rfl,trivial,trivial⟩,trivial⟩,trivial⟩⟩ (λ_=>trivial) l
 |rL a H1=>exact g.elim
def Xb:ax PP II where
 f:=9
 spec X args H c _:=match args with
  |[]=>X.ag (SV H) (c (.bool true) H)
  |_=>X.fail
 ok X sem hX args H c kp h:=by
  split at h
  ·obtain⟨d,e⟩:=hX.ag _ _ h;obtain⟨k2,g⟩:=K8 d;refine⟨.ret (.bool true) H,e,V4.aaG (m:=14) A zC k2 (λi hi=>?_) (λi hi j=>⟨g i j,λσ a=>?_⟩) (λ_=>rfl) (λ_=>rfl)⟩
   ·rw[Jk,if_neg O,if_neg O,if_neg O,if_neg O,if_neg O]
   ·have I2:=a 13 O;refine uO (P:=λ_ b=>b.bx σ=b) A A ?_ ?_ A (λ_=>rfl) i
    ·show aae.cells (bj.bx σ bG) .ro=_;rw[D2]
    ·show aae.cells [.map (some (σ 13))] .ro=_;rw[I2];rfl
  ·exact zR
end
def pf(G:Nat)(ls:List Nat)(n:Nat)(l:Nat):Nat:=if l<G then l else match ls[l-G]? with|some x=>x|none=>n+(l-(G+ls.length))
def af.Xc{P:Program}{I:bg}{f:FuncId}{o args:List AV}{H0 m:AH}{a0 a:AV}(h:af P I f o H0 (.ret a0 m)){ls:List Nat}{H H':AH}
  (F:H0.n=I.G+ls.length) (S:∀i,i<I.G->H0.get i= .dead) (J:∀i,I.G+ls.length<=i->H0.get i= .dead)
  (hl:∀(q l:Nat),ls[q]? =Option.some l->I.G<=l/\l<H.n)
  (hs:∀(q l:Nat),ls[q]? =Option.some l->H0.get (I.G+q)≠ .dead->H.get l=(H0.get (I.G+q)).bx (pf I.G ls H.n))
  (hi:∀(q K l:Nat),ls[q]? =Option.some l->ls[K]? =Option.some l->H0.get (I.G+q)≠ .dead->H0.get (I.G+K)≠ .dead->q=K)
  (V:H'.n=H.n+(m.n-H0.n))
  (W:∀(q l:Nat),ls[q]? =Option.some l->H0.get (I.G+q)≠ .dead->H'.get l=(m.get (I.G+q)).bx (pf I.G ls H.n))
  (h3:(∀l,H.n<=l->H.get l= .dead)->∀j,H'.get (H.n+j)=(m.get (I.G+ls.length+j)).bx (pf I.G ls H.n))
  (h4:∀l,l<H.n->(∀(q:Nat),ls[q]? =Option.some l->H0.get (I.G+q)= .dead)->H'.get l=H.get l):
  (bj.bx (pf I.G ls H.n) o=args->a0.bx (pf I.G ls H.n)=a->I.G<=H.n->af P I f args H (.ret a H')):=by
 intro X Z hG c ρ w vs L hv T;have d:∀l,H0.get l≠ .dead->I.G<=l/\l<I.G+ls.length:=Y;have s:∀l,I.G<=l->l<I.G+ls.length->∃x,ls[l-I.G]? =Option.some x/\pf I.G ls H.n l=x:=λl a b=>by
  have:l-I.G<ls.length:=O;refine⟨ls[l-I.G],oa this,?_⟩;unfold pf
  grind
 have y:∀l,I.G+ls.length<=l->pf I.G ls H.n l=H.n+(l-(I.G+ls.length)):=λl a=>by
  unfold pf
  grind
 have C:Sub I.G (pf I.G ls H.n) H0 H :=
  {lt:=λl t=>by
    rw[F]at t;by_cases e:l<I.G
    ·unfold pf;rw[if_pos e];omega
    grind
   ge:=λl aa=>Y
   same:=λl u=>by
    obtain⟨a,b⟩:=d l u;obtain⟨x,k1,k2⟩:=s l a b;have e:I.G+(l-I.G)=l:=O
    grind
   inj:=λl E u N U=>by
    obtain⟨a,b⟩:=d l u;obtain⟨a',b'⟩:=d E N;obtain⟨x,k1,k2⟩:=s l a b;obtain⟨x',ad,Q⟩:=s E a' b';rw[k2,Q]at U;subst U;have e:I.G+(l-I.G)=l:=O;have e':I.G+(E-I.G)=E:=O
    grind
   eZ:=λg hg=>⟨by rw[F];omega,by unfold pf;rw[if_pos hg]⟩
   low:=λl v=>Y}
 have D:EE (pf I.G ls H.n) H0 (CO.ret a0 m).heap H H' :=
  {n:=V
   old:=λl u=>by obtain⟨a,b⟩:=d l u;obtain⟨x,k1,k2⟩:=s l a b;have e:I.G+(l-I.G)=l:=O;have:=W _ _ k1 (by rw[e];exact u);rw[e]at this;rw[k2];exact this
   new:=λl v=>by rw[F]at v;rw[y l v];have:=h3 T.low (l-(I.G+ls.length));rw[show I.G+ls.length+(l-(I.G+ls.length))=l by omega]at this;exact this
   rest:=λl t hk=>h4 l t λq R=>by
    cases u:H0.get (I.G+q)with
    |dead=>rfl
    |_=>
     exfalso;have ap:q<ls.length:=by
      refine q_ λe=>?_
      rw[List.getElem?_eq_none e]at R;cases R
     refine hk (I.G+q) Y ?_;unfold pf;rw[if_neg O,show I.G+q-I.G=q by omega,R]}
 have:=h.lift C D;rw[X]at this;have e:(CO.ret a0 m).jt (pf I.G ls H.n) H'= .ret a H':=by show CO.ret (a0.bx (pf I.G ls H.n)) H'=_;rw[Z]
 rw[e]at this;exact this c ρ w vs L hv T
section
structure QC where
 (nw:Nat) (f:Nat->List AV) (ng:Nat) (g:Nat->List AV) (a fl:Int) (nu de:List UInt8) (top:Int)
def Gm(k:QC):List AV:=[.ae k.nw 3 k.f,.ae k.ng 1 k.g,.int z k.a,.int z k.fl,.str k.nu,.str k.de,.int z k.top]
def qb(k:QC):Bool:=ar 3 k.nw k.f&&ar 1 k.ng k.g&&kw k.nw (aF k.f)
def fV(nw:Nat)(C:Nat->Nat->Int)(x:Node):Bool:=iL nw C (cD x.lo x.hi)
def gV(m:Nat)(F:Nat->List AV)(l:List Piece)(j:Nat):List AV:=bif a_ j m then F j else cA (l.getD (j-m) dj)
open Classical in
def bB(F:Nat->List AV):Bool:=f_ (∀σ j,bj.bx σ (F j)=F j/\bj.le σ (F j) (F j))
open Classical in
def nz(a:AV):Tree:=if h:∃t,dz t=a then h.choose else .leaf dp
open Classical in
def jl(S:Tree->Prop)(a:AV):Bool:=f_ (S (nz a)/\a=dz (nz a))
def fM(nw:Nat)(f:Nat->List AV)(a:AV):Nat:=(aR (fV nw (aF f)) (nz a)).length
def sD(nw:Nat)(f:Nat->List AV)(m:Nat)(F:Nat->List AV)(a:AV):Nat->List AV:=gV m F (aR (fV nw (aF f)) (nz a))
def D3(k:QC)(n:Int)(m:Nat)(F:Nat->List AV):AH:={n:=16,t:=i_ [(12,.cells (Gm k) (.ty 34)),(13,.cells [.int z n,.own 15 m 29] (.ty 38)),(14,.cells [.fn 33 [] [.ptr 12 0 0 0,.ptr 13 0 0 0,.ptr 14 0 0 0]] (.ty 85)),(15,.rows m 29 F (.ty 48))]}
def Gn(k:QC)(n:Int):AH:={n:=15,t:=i_ [(12,.cells (Gm k) (.ty 34)),(13,.cells [.int z n,.aD] (.ty 38)),(14,.cells [.fn 33 [] [.ptr 12 0 0 0,.ptr 13 0 0 0,.ptr 14 0 0 0]] (.ty 85))]}
def Cl(k:QC)(n:Int)(m:Nat)(F:Nat->List AV):AH:={n:=17,t:=i_ [(12,.cells (Gm k) (.ty 34)),(13,.cells [.int z n,.own 16 m 29] (.ty 38)),(14,.cells [.fn 33 [] [.ptr 12 0 0 0,.ptr 13 0 0 0,.ptr 14 0 0 0]] (.ty 85)),(16,.rows m 29 F (.ty 48))]}
def K9(t:Tree):List AV:=[dz t,.ptr 12 0 0 0,.ptr 13 0 0 0,.ptr 14 0 0 0]
def xg(t:Tree):Prop := ∀(k:QC)(n:Int)(m:Nat)(F:Nat->List AV),qb k=true->m+(aR (fV k.nw (aF k.f)) t).length<=1000000->bB F=true->
 af PP II 33 (K9 t) (D3 k n m F) (.ret (.bM []) (Cl k n (m+(aR (fV k.nw (aF k.f)) t).length) (gV m F (aR (fV k.nw (aF k.f)) t))))
def SY(t:Tree):Prop := ∀(k:QC)(n:Int),qb k=true->(aR (fV k.nw (aF k.f)) t).length<=1000000->
 af PP II 33 (K9 t) (Gn k n) (.ret (.bM []) (D3 k n (aR (fV k.nw (aF k.f)) t).length (gV 0 (λ_=>[]) (aR (fV k.nw (aF k.f)) t))))
def D4(n lq lo lp a b c d:Nat):Bool:=u_ lq b&&u_ lo c&&u_ lp d&&o_ 12 lq&&o_ 12 lo&&o_ 12 lp&&o_ 12 a&&a_ lq n&&a_ lo n&&a_ lp n&&a_ a n && !Nat.beq lq lo && !Nat.beq lq lp && !Nat.beq lq a && !Nat.beq lo lp && !Nat.beq lo a && !Nat.beq lp a
def D5(S:Tree->Prop){R:Type}(X:RI R)(a:AV)(H:AH)(lq lo lp e b c d nw:Nat)(f:Nat->List AV)(ng:Nat)(g:Nat->List AV)(n:Int)(m:Nat)(F:Nat->List AV)(h:AV->AH->R):R :=
 X.ag (D4 H.n lq lo lp e b c d) (X.ag (jl S a) (X.ag (bB F&&ar 3 nw f&&ar 1 ng g&&kw nw (aF f)&&f_ (m+fM nw f a<=1000000))
  (h (.bM []) (((H.set lo (.cells [.int z n,.own H.n (m+fM nw f a) 29] (.ty 38))).set e .dead).new (.rows (m+fM nw f a) 29 (sD nw f m F a) (.ty 48))))))
def La(S:Tree->Prop){R:Type}(X:RI R):Spec R:=λargs H h _=>match args with
 |[a,.ptr lq 0 0 0,.ptr lo 0 0 0,.ptr lp 0 0 0]=>match H.get lq,H.get lo,H.get lp with
  | .cells [.ae nw 3 f,.ae ng 1 g,.int z _,.int z _,.str _,.str _,.int z _] (.ty 34),.cells [.int z n,.own e m 29] (.ty 38),.cells [.fn 33 [] [.ptr b 0 0 0,.ptr c 0 0 0,.ptr d 0 0 0]] (.ty 85)=>match H.get e with
   | .rows m1 29 F (.ty 48)=>X.ag (f_ (m=m1)) (D5 S X a H lq lo lp e b c d nw f ng g n m F h)
   | .cells cs (.ty 48)=>X.ag (f_ (cs.length=m*29)) (D5 S X a H lq lo lp e b c d nw f ng g n m (bY cs 29) h)
   |_=>X.fail
  |_,_,_=>X.fail
 |_=>X.fail
def N7{t}(b:∀a,dz a=dz t->a=t):nz (dz t)=t:=by
 unfold nz;have h:∃a,dz a=dz t:=⟨t,rfl⟩
 grind
def D6{n b:Node}{x c:ao}{k a:AV}(h:cellsOf n x k=cellsOf b c a):k=a:=congrArg (λl=>List.getD l 28 AV.any) h
def V5{n c x a k e}(h:cellsOf n x k=cellsOf c a e):x=a:=by
 have g:∀j,cT (cellsOf n x k) j=cT (cellsOf c a e) j:=λj=>by rw[h]
 have f:x.t=a.t:=g 18;have i:x.s=a.s:=g 19;have m:x.v=a.v:=g 20;have h3:x.w=a.w:=g 21;have h4:x.o=a.o:=g 22;have q:x.p=a.p:=g 23;have r:x.d=a.d:=g 24;have u:x.l=a.l:=g 25;have y:x.h=a.h:=g 26;have C:x.b=a.b:=g 27;cases x;simp_all
def SZ{p q a b}(h:AV.ae 2 1 (r6 p q)=AV.ae 2 1 (r6 a b)):p=a/\q=b:=by
 have c:r6 p q=r6 a b:=by injection h
 have d:[p]=[a]:=congrFun c 0;have e:[q]=[b]:=congrFun c 1
 grind
def Ak:∀(t a),cellsOf (aq t) (bJ t) (cy t)=cellsOf (aq a) (bJ a) (cy a)->t=a
 | .leaf x,.leaf y,h=>by rw[show x=y from V5 h]
 | .leaf x,.node l r,h=>by have:=D6 h;simp only[cy]at this;cases this
 | .node l r,.leaf x,h=>by have:=D6 h;simp only[cy]at this;cases this
 | .node l r,.node d e,h=>by
  have:=D6 h;simp only[cy]at this;obtain⟨b,c⟩:=SZ this;injection b with b
  injection c with c
  rw[Ak l d b,Ak r e c]
def S0{t a}(h:dz t=dz a):t=a:=by
 unfold dz at h;injection h with h
 exact Ak t a h
def rj(t):nz (dz t)=t:=N7 λ_ h=>S0 h
open Classical in
def ll{S:Tree->Prop}{t:Tree}(h:S t):jl S (dz t)=true:=by
 unfold jl;rw[rj];exact bK ⟨h,rfl⟩
open Classical in
def fO{F:Nat->List AV}(h:bB F=true)(σ:Nat->Nat)(j:Nat):bj.bx σ (F j)=F j:=by
 unfold bB at h;exact(py h σ j).1
open Classical in
def dI{F:Nat->List AV}(h:bB F=true)(σ:Nat->Nat)(j:Nat):bj.le σ (F j) (F j):=by
 unfold bB at h;exact(py h σ j).2
open Classical in
def iP{F:Nat->List AV}(h:∀σ j,bj.bx σ (F j)=F j/\bj.le σ (F j) (F j)):bB F=true:=by
 unfold bB;exact bK h
def bj.S1:∀{us a c b σ},bj.le σ us a->bj.le σ c b->bj.le σ (us++c) (a++b)
 |[],[],_,_,_,_,h=>h
 |_::_,_::_,_,_,_,h1,d=>⟨h1.1,bj.S1 h1.2 d⟩
def Al(p)(σ):bj.le σ (cA p) (cA p):=⟨⟨rfl,rfl⟩,bj.S1 (dM σ p.x) (vA σ p.nd)⟩
def tA(p)(σ):bj.bx σ (cA p)=cA p:=rfl
def ib{m F l}(h:bB F=true):bB (gV m F l)=true:=by
 refine iP λσ j=>?_
 unfold gV;cases a_ j m with
 |true=>exact⟨fO h σ j,dI h σ j⟩
 |false=>exact⟨tA _ σ,Al _ σ⟩
open Classical in
def Cm{S:Tree->Prop}{a:AV}(h:jl S a=true):∃t,S t/\a=dz t/\nz a=t:=by
 unfold jl at h;obtain⟨b,c⟩:=py h;exact⟨nz a,b,c,rfl⟩
end
def rk(k)(n)(m)(F)(l):(D3 k n m F).get l=if l=15 then .rows m 29 F (.ty 48)else if l=14 then .cells [.fn 33 [] [.ptr 12 0 0 0,.ptr 13 0 0 0,.ptr 14 0 0 0]] (.ty 85)else if l=13 then .cells [.int z n,.own 15 m 29] (.ty 38)else if l=12 then .cells (Gm k) (.ty 34)else .dead:=by
 simp only[D3,w_,i_,x_,y_]
 grind
def N8(k)(n)(m)(F)(l):(Cl k n m F).get l=if l=16 then .rows m 29 F (.ty 48)else if l=14 then .cells [.fn 33 [] [.ptr 12 0 0 0,.ptr 13 0 0 0,.ptr 14 0 0 0]] (.ty 85)else if l=13 then .cells [.int z n,.own 16 m 29] (.ty 38)else if l=12 then .cells (Gm k) (.ty 34)else .dead:=by
 simp only[Cl,w_,i_,x_,y_]
 grind
def vQ{a b:Nat}(h:(!Nat.beq a b)=true):a≠b:=λe=>by
 simp_all
def Gp{t:Tree}(ht:xg t)(k:QC)(n:Int)(m:Nat)(F:Nat->List AV)(y:qb k=true)(P:m+(aR (fV k.nw (aF k.f)) t).length<=1000000)(h3:bB F=true){H:AH}{lq lo lp b:Nat}(c:D4 H.n lq lo lp b lq lo lp=true)
  (C:H.get lq= .cells (Gm k) (.ty 34)) (go:H.get lo= .cells [.int z n,.own b m 29] (.ty 38)) (D:H.get lp= .cells [.fn 33 [] [.ptr lq 0 0 0,.ptr lo 0 0 0,.ptr lp 0 0 0]] (.ty 85)) (Q:H.get b= .rows m 29 F (.ty 48)):
  af PP II 33 [dz t,.ptr lq 0 0 0,.ptr lo 0 0 0,.ptr lp 0 0 0] H (.ret (.bM []) (((H.set lo (.cells [.int z n,.own H.n (m+(aR (fV k.nw (aF k.f)) t).length) 29] (.ty 38))).set b .dead).new (.rows (m+(aR (fV k.nw (aF k.f)) t).length) 29 (gV m F (aR (fV k.nw (aF k.f)) t)) (.ty 48)))):=by
 have d:=ht k n m F y P h3;have free:=ib (m:=m) (l:=aR (fV k.nw (aF k.f)) t) h3;generalize m+(aR (fV k.nw (aF k.f)) t).length=a at*;generalize gV m F (aR (fV k.nw (aF k.f)) t)=E at*;simp only[D4,ba]at c;obtain⟨⟨⟨⟨⟨⟨⟨⟨⟨⟨⟨⟨⟨⟨⟨⟨V,W⟩,X⟩,G⟩,I⟩,J⟩,K⟩,R⟩,S⟩,w⟩,x⟩,g⟩,o⟩,p⟩,r⟩,s⟩,u⟩:=c;have G:=fT G;have I:=fT I;have J:=fT J;have K:=fT K;rw[n_]at R S w x;have g:=vQ g;have o:=vQ o;have p:=vQ p;have r:=vQ r;have s:=vQ s;have u:=vQ u;have L:∀(q l:Nat),[lq,lo,lp,b][q]? =Option.some l->(q=0/\l=lq)∨(q=1/\l=lo)∨(q=2/\l=lp)∨(q=3/\l=b):=λq l h=>by
  grind
 refine d.Xc (ls:=[lq,lo,lp,b]) (H:=H) A (λi hi=>?_) (λi hi=>?_) (λq l h=>?_) (λq l h T=>?_) (λq Y l h Z _ _=>?_) ?_ (λq l h T=>?_) (λv j=>?_) (λl hl N=>?_) A A ?_
 ·have hi:i<12:=hi;rw[rk,if_neg O,if_neg O,if_neg O,if_neg O]
 ·have hi:16<=i:=hi;rw[rk,if_neg O,if_neg O,if_neg O,if_neg O]
 ·show 12<=l/\l<H.n
  grind
 ·rcases L q l h with⟨rfl,rfl⟩|⟨rfl,rfl⟩|⟨rfl,rfl⟩|⟨rfl,rfl⟩
  ·rw[C];rfl
  ·rw[go];rfl
  ·rw[D];rfl
  ·rw[Q];show _=aae.rows m 29 (λi=>bj.bx _ (F i)) (.ty 48);congr 1;funext i;exact(fO h3 _ i).symm
 grind
 rfl
 ·rcases L q l h with⟨rfl,rfl⟩|⟨rfl,rfl⟩|⟨rfl,rfl⟩|⟨rfl,rfl⟩
  ·rw[r_ _ _ zM,j_ _ _ O,j_ _ _ O,C];rfl
  ·rw[r_ _ _ zM,j_ _ _ O,k_];rfl
  ·rw[r_ _ _ zM,j_ _ _ O,j_ _ _ O,D];rfl
  ·rw[r_ _ _ zM,k_];rfl
 ·show _=((Cl k n a E).get (12+4+j)).bx (pf 12 [lq,lo,lp,b] H.n);rw[N8];by_cases U:j=0
  ·subst U;rw[z_];refine(if_pos (show H.n+0=H.n from rfl)).trans ?_;rw[if_pos A];show _=aae.rows a 29 (λi=>bj.bx _ (E i)) (.ty 48);congr 1;funext i;exact(fO free _ i).symm
  ·rw[r_ _ _ zM,j_ _ _ O,j_ _ _ O,v _ O];rw[if_neg O,if_neg O,if_neg O,if_neg O];rfl
 ·have h0:l≠lo:=λe=>by subst e;have:=N 1 A;rw[rk]at this;cases this
  have y:l≠b:=λe=>by subst e;have:=N 3 A;rw[rk]at this;cases this
  rw[r_ _ _ zM,j_ _ _ O,j_ _ _ O]
 ·show 12<=H.n;omega
def Bg{cs n e}(a:0<e)(hl:cs.length=n*e):rowsOf n (bY cs e)=cs:=by
 have:=jF (cs:=cs) (o:=0) a (n:=n) O;simp only[v_,List.drop_zero]at this;unfold bY
 grind
def Rel.cut{c:fE}{ρ:Env}{H:AH}{w:World}{a n e t:Nat}{cs:List AV}(h:Rel c ρ H w)(s:H.get a= .cells cs (.ty t))(hl:cs.length=n*e)(y:0<e):Rel c ρ (H.set a (.rows n e (bY cs e) (.ty t))) w:=by
 have gs:∀l,(H.set a (.rows n e (bY cs e) (.ty t))).get l=if l=a then .rows n e (bY cs e) (.ty t)else H.get l:=λl=>s_ H a l _
 have d:∀l,((H.set a (.rows n e (bY cs e) (.ty t))).get l).rw=(H.get l).rw:=λl=>by
  rw[gs];by_cases j:l=a
  ·rw[if_pos j,j,s];rfl
  ·rw[if_neg j]
 have C:∀l,(H.set a (.rows n e (bY cs e) (.ty t))).get l≠ .dead->H.get l≠ .dead:=λl=>by
  grind
 have m:∀l,H.get l= .dead->(H.set a (.rows n e (bY cs e) (.ty t))).get l= .dead:=λl hl=>by
  grind
 refine⟨λl=>?_,λl u r N D o b f E=>?_,λl r N b f=>?_,h.gY,h.size,h.os,h.output,h.tape,h.top,h.eZ,λl r N q f=>h.hid l r N (C l q) f,h.env,λl hl=>m l (h.low l hl),h.sY,λl r N b f=>?_,h.tJ,h.sZ⟩
 ·rw[gs];by_cases j:l=a
  ·subst j;rw[if_pos A];have v:=h.eB l;rw[s]at v;refine⟨λi hi=>?_,?_⟩
   ·simp only[bY,List.length_take,List.length_drop];have:i*e+e<=n*e:=by
     have:=Nat.mul_le_mul_right e (show i+1<=n from hi);rw[Nat.add_mul,Nat.one_mul]at this;exact this
    omega
   ·rw[Bg y hl];exact v
  ·rw[if_neg j];exact h.eB l
 ·rw[d]at b;exact m u (h.sep l u r N D o b f E)
 ·rw[d]at b;exact h.iB l r N b f
 ·rw[d]at b;exact h.sy l r N b f
def af.cut{f:FuncId}{args:List AV}{H H1 H':AH}{a:AV}{d n e t:Nat}{cs:List AV}(j:H.get d= .cells cs (.ty t))(hl:cs.length=n*e)(l:0<e)
  (h:af PP II f args (H.set d (.rows n e (bY cs e) (.ty t))) (.ret a H1)) (m:H'.n=H1.n) (o:∀i,H'.get i=H1.get i):af PP II f args H (.ret a H'):=by
 intro c ρ w vs hG q s;have post:∀e w',(CO.ret a H1).post c ρ e w'->(CO.ret a H').post c ρ e w':=λe w' b=>by
  cases e with
  |returned v=>obtain⟨ρ',k1,k2,u⟩:=b;exact⟨ρ',k1,k2.congr m o,u⟩
  |panicked y=>exact b.elim
  |outgrown=>exact b.elim
 rcases h c ρ w vs hG q (s.cut j hl l)with⟨k1,k2⟩|⟨v,w',k1,k2⟩
 ·exact .inl ⟨k1,k2.mono λe w'=>post e w'⟩
 grind
def Cn{S:Tree->Prop}(v:∀t,S t->xg t){R:Type}{X:RI R}{sem:R->Prop}(hX:X.Ok sem){a:AV}{H:AH}{lq lo lp q d j k nw:Nat}{f:Nat->List AV}{ng:Nat}{g:Nat->List AV}{r fl top n:Int}{nu de:List UInt8}{m:Nat}{F:Nat->List AV}{w kp:AV->AH->R}
  (h:sem (D5 S X a H lq lo lp q d j k nw f ng g n m F w)) (x:H.get lq= .cells [.ae nw 3 f,.ae ng 1 g,.int z r,.int z fl,.str nu,.str de,.int z top] (.ty 34)) (go:H.get lo= .cells [.int z n,.own q m 29] (.ty 38)) (y:H.get lp= .cells [.fn 33 [] [.ptr d 0 0 0,.ptr j 0 0 0,.ptr k 0 0 0]] (.ty 85))
  (l:H.get q= .rows m 29 F (.ty 48)∨∃cs,H.get q= .cells cs (.ty 48)/\cs.length=m*29/\F=bY cs 29):∃o:CO,o.sem sem w kp/\af PP II 33 [a,.ptr lq 0 0 0,.ptr lo 0 0 0,.ptr lp 0 0 0] H o:=by
 unfold D5 at h;obtain⟨b,ha⟩:=hX.ag _ _ h;obtain⟨G,C⟩:=hX.ag _ _ ha;obtain⟨h3,p⟩:=hX.ag _ _ C;clear h ha C;have c:=b;simp only[D4,ba]at b;have I:=dV b.1.1.1.1.1.1.1.1.1.1.1.1.1.1.1.1;have J:=dV b.1.1.1.1.1.1.1.1.1.1.1.1.1.1.1.2;have K:=dV b.1.1.1.1.1.1.1.1.1.1.1.1.1.1.2;have d1:=vQ b.1.1.1.2;have L:=vQ b.1.2;have N:=vQ b.2;subst I J K;simp only[ba,bl]at h3;obtain⟨⟨⟨⟨h4,P⟩,Q⟩,T⟩,s⟩:=h3;obtain⟨t,ht,rfl,e⟩:=Cm G;unfold fM at s p;unfold sD at p;rw[e]at s p;have D:qb ⟨nw,f,ng,g,r,fl,nu,de,top⟩=true:=by unfold qb;rw[P,Q,T];rfl
 rcases l with l|⟨cs,l,u,rfl⟩
 ·exact⟨.ret (.bM []) _,p,Gp (v t ht) ⟨nw,f,ng,g,r,fl,nu,de,top⟩ n m F D s h4 c x go y l⟩
 ·refine⟨.ret (.bM []) _,p,af.cut l u O (Gp (v t ht) ⟨nw,f,ng,g,r,fl,nu,de,top⟩ n m (bY cs 29) D s h4 c ?_ ?_ ?_ ?_) A λi=>?_⟩
  ·rw[j_ _ _ (λe=>d1 e.symm)];exact x
  ·rw[j_ _ _ (λe=>L e.symm)];exact go
  ·rw[j_ _ _ (λe=>N e.symm)];exact y
  ·exact k_ _ _ _
  ·rw[z_,z_];by_cases E:i=H.n;simp_all
   ·refine(if_neg E).trans (Eq.trans ?_ (if_neg E).symm);rw[s_,s_,s_,s_,s_];simp_all
def Lb(S:Tree->Prop)(c:∀t,S t->xg t):ax PP II where
 f:=33
 spec X:=La S X
 ok X sem hX args H o kp h:=by
  unfold La at h;split at h
  ·rename_i a lq lo lp;split at h
   ·rename_i nw f ng g p fl nu de top n q m j k l d go e;split at h
    ·rename_i r F i;obtain⟨b,ha⟩:=hX.ag _ _ h;have b:=py b;subst b;exact Cn c hX ha d go e (.inl i)
    ·rename_i cs i;obtain⟨b,ha⟩:=hX.ag _ _ h;exact Cn c hX ha d go e Y
    ·exact zR
   ·exact zR
  ·exact zR
abbrev kbH(ks:List (ax PP II))(f:FuncId)(args:List AV)(H H':AH):Prop:=ka ks (mO PP II []) 1000 f args H (λa H1=>qn H.n a H1 (.bM []) H' True) (λ_ _=>False)
def Xd(x:ao):List AV:=[.bW (cellsOf (aO x) x .aD) 0,.ptr 12 0 0 0,.ptr 13 0 0 0,.ptr 14 0 0 0]
def Xe(l r:Tree):List AV:=[.bW (cellsOf (bc (aq l) (aq r)) dp (.ae 2 1 (r6 (.bW (cellsOf (aq l) (bJ l) (cy l)) 0) (.bW (cellsOf (aq r) (bJ r) (cy r)) 0)))) 0,.ptr 12 0 0 0,.ptr 13 0 0 0,.ptr 14 0 0 0]
def S3(x)(nw)(f)(ng)(g)(a fl)(nu de)(top n)(m c)(F k):(kbH [qt] 33 (Xd x) (D3 ⟨nw,f,ng,g,a,fl,nu,de,top⟩ n m F) (Cl ⟨nw,f,ng,g,a,fl,nu,de,top⟩ n c k))=(let e:=(bh (m+1) c (zyN nw (zyR nw f (zyN ng (zyR ng g (zyI a (zyI fl (zyB nu (zyB de (zyI top True))))))))));let j:=(f_ (m<=m)&&true&&true&&f_ ((m+1)*248<=140737488355328)&&true);(B (ar 3 nw f&&ar 1 ng g) (B (kw nw (aF f)&&true&&true) (ak (iL nw (aF f) [M z ((aO x).lo 0),M z ((aO x).lo 1),M z ((aO x).lo 2),M z ((aO x).lo 3),M z ((aO x).lo 4),M z ((aO x).lo 5),M z ((aO x).lo 6),M z ((aO x).lo 7),M z ((aO x).hi 0),M z ((aO x).hi 1),M z ((aO x).hi 2),M z ((aO x).hi 3),M z ((aO x).hi 4),M z ((aO x).hi 5),M z ((aO x).hi 6),M z ((aO x).hi 7)]) (B j (bh (m+1) c (an (m+1) (λi=>bif a_ i m then F i else d_ 29 (b_ (0+(i-m)*29) [M z 3,M z 0,M z 0,M z 0,M z 0,M z 0,M z 0,M z 0,M z 0,M z 0,M z 0,M z ((aO x).lo 0),M z ((aO x).lo 1),M z ((aO x).lo 2),M z ((aO x).lo 3),M z ((aO x).lo 4),M z ((aO x).lo 5),M z ((aO x).lo 6),M z ((aO x).lo 7),M z ((aO x).hi 0),M z ((aO x).hi 1),M z ((aO x).hi 2),M z ((aO x).hi 3),M z ((aO x).hi 4),M z ((aO x).hi 5),M z ((aO x).hi 6),M z ((aO x).hi 7),e_ (aO x).l,e_ (aO x).r])) k/\zyI n e))) (B j (bh (m+1) c (an (m+1) (λi=>bif a_ i m then F i else d_ 29 (b_ (0+(i-m)*29) [M z 2,M z x.t,M z x.s,M z x.v,M z x.w,M z x.o,M z x.p,M z x.d,M z x.l,M z x.h,M z x.b,M z 0,M z 0,M z 0,M z 0,M z 0,M z 0,M z 0,M z 0,M z 0,M z 0,M z 0,M z 0,M z 0,M z 0,M z 0,M z 0,e_ [],e_ []])) k/\zyI n e))))))):=U
def N9(x)(nw)(f)(ng)(g)(a fl)(nu de)(top n)(c)(i):(kbH [qt] 33 (Xd x) (Gn ⟨nw,f,ng,g,a,fl,nu,de,top⟩ n) (D3 ⟨nw,f,ng,g,a,fl,nu,de,top⟩ n c i))=(let e:=(bh 1 c (zyN nw (zyR nw f (zyN ng (zyR ng g (zyI a (zyI fl (zyB nu (zyB de (zyI top True))))))))));(B (ar 3 nw f&&ar 1 ng g) (B (kw nw (aF f)&&true&&true) (ak (iL nw (aF f) [M z ((aO x).lo 0),M z ((aO x).lo 1),M z ((aO x).lo 2),M z ((aO x).lo 3),M z ((aO x).lo 4),M z ((aO x).lo 5),M z ((aO x).lo 6),M z ((aO x).lo 7),M z ((aO x).hi 0),M z ((aO x).hi 1),M z ((aO x).hi 2),M z ((aO x).hi 3),M z ((aO x).hi 4),M z ((aO x).hi 5),M z ((aO x).hi 6),M z ((aO x).hi 7)]) (bh 29 (c*29) (an c (bY [M z 3,M z 0,M z 0,M z 0,M z 0,M z 0,M z 0,M z 0,M z 0,M z 0,M z 0,M z ((aO x).lo 0),M z ((aO x).lo 1),M z ((aO x).lo 2),M z ((aO x).lo 3),M z ((aO x).lo 4),M z ((aO x).lo 5),M z ((aO x).lo 6),M z ((aO x).lo 7),M z ((aO x).hi 0),M z ((aO x).hi 1),M z ((aO x).hi 2),M z ((aO x).hi 3),M z ((aO x).hi 4),M z ((aO x).hi 5),M z ((aO x).hi 6),M z ((aO x).hi 7),e_ (aO x).l,e_ (aO x).r] 29) i/\zyI n e)) (bh 29 (c*29) (an c (bY [M z 2,M z x.t,M z x.s,M z x.v,M z x.w,M z x.o,M z x.p,M z x.d,M z x.l,M z x.h,M z x.b,M z 0,M z 0,M z 0,M z 0,M z 0,M z 0,M z 0,M z 0,M z 0,M z 0,M z 0,M z 0,M z 0,M z 0,M z 0,M z 0,e_ [],e_ []] 29) i/\zyI n e)))))):=U
def S4(l r)(S)(d)(nw)(f)(ng)(g)(a fl)(nu de)(top n)(m b)(F c):(kbH [qt,Lb S d] 33 (Xe l r) (D3 ⟨nw,f,ng,g,a,fl,nu,de,top⟩ n m F) (Cl ⟨nw,f,ng,g,a,fl,nu,de,top⟩ n b c))=(B (ar 3 nw f&&ar 1 ng g) (B (kw nw (aF f)&&true&&true) (ak (iL nw (aF f) [M z (Node.lo (bc (aq l) (aq r)) 0),M z (Node.lo (bc (aq l) (aq r)) 1),M z (Node.lo (bc (aq l) (aq r)) 2),M z (Node.lo (bc (aq l) (aq r)) 3),M z (Node.lo (bc (aq l) (aq r)) 4),M z (Node.lo (bc (aq l) (aq r)) 5),M z (Node.lo (bc (aq l) (aq r)) 6),M z (Node.lo (bc (aq l) (aq r)) 7),M z (Node.hi (bc (aq l) (aq r)) 0),M z (Node.hi (bc (aq l) (aq r)) 1),M z (Node.hi (bc (aq l) (aq r)) 2),M z (Node.hi (bc (aq l) (aq r)) 3),M z (Node.hi (bc (aq l) (aq r)) 4),M z (Node.hi (bc (aq l) (aq r)) 5),M z (Node.hi (bc (aq l) (aq r)) 6),M z (Node.hi (bc (aq l) (aq r)) 7)]) (B (f_ (m<=m)&&true&&true&&f_ ((m+1)*248<=140737488355328)&&true) (bh (m+1) b (an (m+1) (λi=>bif a_ i m then F i else d_ 29 (b_ (0+(i-m)*29) [M z 3,M z 0,M z 0,M z 0,M z 0,M z 0,M z 0,M z 0,M z 0,M z 0,M z 0,M z (Node.lo (bc (aq l) (aq r)) 0),M z (Node.lo (bc (aq l) (aq r)) 1),M z (Node.lo (bc (aq l) (aq r)) 2),M z (Node.lo (bc (aq l) (aq r)) 3),M z (Node.lo (bc (aq l) (aq r)) 4),M z (Node.lo (bc (aq l) (aq r)) 5),M z (Node.lo (bc (aq l) (aq r)) 6),M z (Node.lo (bc (aq l) (aq r)) 7),M z (Node.hi (bc (aq l) (aq r)) 0),M z (Node.hi (bc (aq l) (aq r)) 1),M z (Node.hi (bc (aq l) (aq r)) 2),M z (Node.hi (bc (aq l) (aq r)) 3),M z (Node.hi (bc (aq l) (aq r)) 4),M z (Node.hi (bc (aq l) (aq r)) 5),M z (Node.hi (bc (aq l) (aq r)) 6),M z (Node.hi (bc (aq l) (aq r)) 7),e_ (Node.l (bc (aq l) (aq r))),e_ (Node.r (bc (aq l) (aq r)))])) c/\zyI n (bh (m+1) b (zyN nw (zyR nw f (zyN ng (zyR ng g (zyI a (zyI fl (zyB nu (zyB de (zyI top True))))))))))))) (B (f_ (m<=m)&&true&&true&&f_ ((m+1)*248<=140737488355328)&&true) (B (f_ (m+1=m+1)) (B (jl S (c_ (cellsOf (aq l) (bJ l) (cy l)) 0)) (B ((bB λi=>bif a_ i m then F i else d_ 29 (b_ (0+(i-m)*29) [M z 1,M z 0,M z 0,M z 0,M z 0,M z 0,M z 0,M z 0,M z 0,M z 0,M z 0,M z 0,M z 0,M z 0,M z 0,M z 0,M z 0,M z 0,M z 0,M z 0,M z 0,M z 0,M z 0,M z 0,M z 0,M z 0,M z 0,e_ [],e_ []]))&&ar 3 nw f&&ar 1 ng g&&kw nw (aF f)&&f_ (m+1+fM nw f (c_ (cellsOf (aq l) (bJ l) (cy l)) 0)<=1000000)) (B (f_ (m+1+fM nw f (c_ (cellsOf (aq l) (bJ l) (cy l)) 0)=m+1+fM nw f (c_ (cellsOf (aq l) (bJ l) (cy l)) 0))) (B (jl S (c_ (cellsOf (aq r) (bJ r) (cy r)) 0)) (B (bB (sD nw f (m+1) (λi=>bif a_ i m then F i else d_ 29 (b_ (0+(i-m)*29) [M z 1,M z 0,M z 0,M z 0,M z 0,M z 0,M z 0,M z 0,M z 0,M z 0,M z 0,M z 0,M z 0,M z 0,M z 0,M z 0,M z 0,M z 0,M z 0,M z 0,M z 0,M z 0,M z 0,M z 0,M z 0,M z 0,M z 0,e_ [],e_ []])) (c_ (cellsOf (aq l) (bJ l) (cy l)) 0))&&ar 3 nw f&&ar 1 ng g&&kw nw (aF f)&&f_ (m+1+fM nw f (c_ (cellsOf (aq l) (bJ l) (cy l)) 0)+fM nw f (c_ (cellsOf (aq r) (bJ r) (cy r)) 0)<=1000000)) (bh (m+1+fM nw f (c_ (cellsOf (aq l) (bJ l) (cy l)) 0)+fM nw f (c_ (cellsOf (aq r) (bJ r) (cy r)) 0)) b (an (m+1+fM nw f (c_ (cellsOf (aq l) (bJ l) (cy l)) 0)+fM nw f (c_ (cellsOf (aq r) (bJ r) (cy r)) 0)) (sD nw f (m+1+fM nw f (c_ (cellsOf (aq l) (bJ l) (cy l)) 0)) (sD nw f (m+1) (λi=>bif a_ i m then F i else d_ 29 (b_ (0+(i-m)*29) [M z 1,M z 0,M z 0,M z 0,M z 0,M z 0,M z 0,M z 0,M z 0,M z 0,M z 0,M z 0,M z 0,M z 0,M z 0,M z 0,M z 0,M z 0,M z 0,M z 0,M z 0,M z 0,M z 0,M z 0,M z 0,M z 0,M z 0,e_ [],e_ []])) (c_ (cellsOf (aq l) (bJ l) (cy l)) 0)) (c_ (cellsOf (aq r) (bJ r) (cy r)) 0)) c/\zyI n (bh (m+1+fM nw f (c_ (cellsOf (aq l) (bJ l) (cy l)) 0)+fM nw f (c_ (cellsOf (aq r) (bJ r) (cy r)) 0)) b (zyN nw (zyR nw f (zyN ng (zyR ng g (zyI a (zyI fl (zyB nu (zyB de (zyI top True)))))))))))))))))))))):=U
def Oa(l r)(S)(d)(nw)(f)(ng)(g)(a fl)(nu de)(top n)(b)(c):(kbH [qt,Lb S d] 33 (Xe l r) (Gn ⟨nw,f,ng,g,a,fl,nu,de,top⟩ n) (D3 ⟨nw,f,ng,g,a,fl,nu,de,top⟩ n b c))=(B (ar 3 nw f&&ar 1 ng g) (B (kw nw (aF f)&&true&&true) (ak (iL nw (aF f) [M z (Node.lo (bc (aq l) (aq r)) 0),M z (Node.lo (bc (aq l) (aq r)) 1),M z (Node.lo (bc (aq l) (aq r)) 2),M z (Node.lo (bc (aq l) (aq r)) 3),M z (Node.lo (bc (aq l) (aq r)) 4),M z (Node.lo (bc (aq l) (aq r)) 5),M z (Node.lo (bc (aq l) (aq r)) 6),M z (Node.lo (bc (aq l) (aq r)) 7),M z (Node.hi (bc (aq l) (aq r)) 0),M z (Node.hi (bc (aq l) (aq r)) 1),M z (Node.hi (bc (aq l) (aq r)) 2),M z (Node.hi (bc (aq l) (aq r)) 3),M z (Node.hi (bc (aq l) (aq r)) 4),M z (Node.hi (bc (aq l) (aq r)) 5),M z (Node.hi (bc (aq l) (aq r)) 6),M z (Node.hi (bc (aq l) (aq r)) 7)]) (bh 29 (b*29) (an b (bY [M z 3,M z 0,M z 0,M z 0,M z 0,M z 0,M z 0,M z 0,M z 0,M z 0,M z 0,M z (Node.lo (bc (aq l) (aq r)) 0),M z (Node.lo (bc (aq l) (aq r)) 1),M z (Node.lo (bc (aq l) (aq r)) 2),M z (Node.lo (bc (aq l) (aq r)) 3),M z (Node.lo (bc (aq l) (aq r)) 4),M z (Node.lo (bc (aq l) (aq r)) 5),M z (Node.lo (bc (aq l) (aq r)) 6),M z (Node.lo (bc (aq l) (aq r)) 7),M z (Node.hi (bc (aq l) (aq r)) 0),M z (Node.hi (bc (aq l) (aq r)) 1),M z (Node.hi (bc (aq l) (aq r)) 2),M z (Node.hi (bc (aq l) (aq r)) 3),M z (Node.hi (bc (aq l) (aq r)) 4),M z (Node.hi (bc (aq l) (aq r)) 5),M z (Node.hi (bc (aq l) (aq r)) 6),M z (Node.hi (bc (aq l) (aq r)) 7),e_ (Node.l (bc (aq l) (aq r))),e_ (Node.r (bc (aq l) (aq r)))] 29) c/\zyI n (bh 1 b (zyN nw (zyR nw f (zyN ng (zyR ng g (zyI a (zyI fl (zyB nu (zyB de (zyI top True)))))))))))) (B (jl S (c_ (cellsOf (aq l) (bJ l) (cy l)) 0)) (B (bB (bY [M z 1,M z 0,M z 0,M z 0,M z 0,M z 0,M z 0,M z 0,M z 0,M z 0,M z 0,M z 0,M z 0,M z 0,M z 0,M z 0,M z 0,M z 0,M z 0,M z 0,M z 0,M z 0,M z 0,M z 0,M z 0,M z 0,M z 0,e_ [],e_ []] 29)&&ar 3 nw f&&ar 1 ng g&&kw nw (aF f)&&f_ (1+fM nw f (c_ (cellsOf (aq l) (bJ l) (cy l)) 0)<=1000000)) (B (f_ (1+fM nw f (c_ (cellsOf (aq l) (bJ l) (cy l)) 0)=1+fM nw f (c_ (cellsOf (aq l) (bJ l) (cy l)) 0))) (B (jl S (c_ (cellsOf (aq r) (bJ r) (cy r)) 0)) (B (bB (sD nw f 1 (bY [M z 1,M z 0,M z 0,M z 0,M z 0,M z 0,M z 0,M z 0,M z 0,M z 0,M z 0,M z 0,M z 0,M z 0,M z 0,M z 0,M z 0,M z 0,M z 0,M z 0,M z 0,M z 0,M z 0,M z 0,M z 0,M z 0,M z 0,e_ [],e_ []] 29) (c_ (cellsOf (aq l) (bJ l) (cy l)) 0))&&ar 3 nw f&&ar 1 ng g&&kw nw (aF f)&&f_ (1+fM nw f (c_ (cellsOf (aq l) (bJ l) (cy l)) 0)+fM nw f (c_ (cellsOf (aq r) (bJ r) (cy r)) 0)<=1000000)) (bh (1+fM nw f (c_ (cellsOf (aq l) (bJ l) (cy l)) 0)+fM nw f (c_ (cellsOf (aq r) (bJ r) (cy r)) 0)) b (an (1+fM nw f (c_ (cellsOf (aq l) (bJ l) (cy l)) 0)+fM nw f (c_ (cellsOf (aq r) (bJ r) (cy r)) 0)) (sD nw f (1+fM nw f (c_ (cellsOf (aq l) (bJ l) (cy l)) 0)) (sD nw f 1 (bY [M z 1,M z 0,M z 0,M z 0,M z 0,M z 0,M z 0,M z 0,M z 0,M z 0,M z 0,M z 0,M z 0,M z 0,M z 0,M z 0,M z 0,M z 0,M z 0,M z 0,M z 0,M z 0,M z 0,M z 0,M z 0,M z 0,M z 0,e_ [],e_ []] 29) (c_ (cellsOf (aq l) (bJ l) (cy l)) 0)) (c_ (cellsOf (aq r) (bJ r) (cy r)) 0)) c/\zyI n (bh (1+fM nw f (c_ (cellsOf (aq l) (bJ l) (cy l)) 0)+fM nw f (c_ (cellsOf (aq r) (bJ r) (cy r)) 0)) b (zyN nw (zyR nw f (zyN ng (zyR ng g (zyI a (zyI fl (zyB nu (zyB de (zyI top True)))))))))))))))))))):=U
def sj{n g G}(hG:bB G=true)(h:∀j,j<n->g j=G j):an n g G:=λj a σ=>by rw[h j a];exact dI hG σ j
def ph{a b}(h:a<b):a_ a b=true:=(n_ ..).mpr h
def pk{a b}(h :¬ a<b):a_ a b=false:=by
 cases c:a_ a b with
 |false=>rfl
 |true=>exact absurd (by simp_all) h
def tB{nw f}(h:ar 3 nw f=true):an nw f f:=λi hi σ=>by
 rw[(pY (dQ h hi)).1];exact ku (aF f) σ i
def tC{ng g}(h:ar 1 ng g=true):an ng g g:=λi hi σ=>by
 rw[DG (dQ h hi)];exact pZ (λj=>cT (g j) 0) σ i
def Lc{m F r p}(b:r=cA p)(j)(a:j<m+1):
  (bif a_ j m then F j else d_ 29 (b_ (0+(j-m)*29) r))=gV m F [p] j:=by
 unfold gV;by_cases h:j<m
 ·rw[ph h];rfl
 ·have a:j=m:=by omega
  rw[pk h,cond_false,cond_false,a,Nat.sub_self,b];rfl
def Jl{m k F r p}(a:r=cA p)(b:bB F=true)(c:k=m+1):an k (λj=>bif a_ j m then F j else d_ 29 (b_ (0+(j-m)*29) r)) (gV m F [p]):=
 sj (ib b) λj d=>Lc a j O
def pn(nw)(f)(t):fM nw f (.bW (cellsOf (aq t) (bJ t) (cy t)) 0)=(aR (fV nw (aF f)) t).length:=by
 show(aR (fV nw (aF f)) (nz (dz t))).length=_;rw[rj]
def po(nw)(f)(m)(F)(t):sD nw f m F (.bW (cellsOf (aq t) (bJ t) (cy t)) 0)=gV m F (aR (fV nw (aF f)) t):=by
 show gV m F (aR (fV nw (aF f)) (nz (dz t)))=_;rw[rj]
def Ld{m F F1 p pl pr}(h:∀j,j<m+1->F1 j=gV m F [p] j)(j)(b:j<m+1+pl.length+pr.length):
  gV (m+1+pl.length) (gV (m+1) F1 pl) pr j=gV m F (p::(pl++pr)) j:=by
 by_cases h1:j<m+1
 ·have e:gV (m+1+pl.length) (gV (m+1) F1 pl) pr j=F1 j:=by
   unfold gV;rw[ph O,cond_true,ph h1,cond_true]
  rw[e,h j h1];unfold gV
  grind
 ·have a:gV m F (p::(pl++pr)) j=cA ((pl++pr).getD (j-(m+1)) dj):=by
   unfold gV;rw[pk O,cond_false];have:j-m=(j-(m+1))+1:=O;rw[this];rfl
  rw[a];by_cases h3:j<m+1+pl.length
  ·have:gV (m+1+pl.length) (gV (m+1) F1 pl) pr j=cA (pl.getD (j-(m+1)) dj):=by
    unfold gV;rw[ph h3,cond_true,pk h1,cond_false]
   grind
  ·have:gV (m+1+pl.length) (gV (m+1) F1 pl) pr j=cA (pr.getD (j-(m+1+pl.length)) dj):=by
    unfold gV;rw[pk h3,cond_false]
   grind
def qc{nw ng f g a fl top nu de}(h:qb ⟨nw,f,ng,g,a,fl,nu,de,top⟩=true):ar 3 nw f=true/\ar 1 ng g=true/\kw nw (aF f)=true:=by
 unfold qb at h
 grind
def Ob(x):xg (.leaf x):=by
 intro k n m F o d e;obtain⟨nw,f,ng,g,a,fl,nu,de,top⟩:=k;obtain⟨i,j,h3⟩:=qc o;have ex:fV nw (aF f) (aO x)=iL nw (aF f) (cD (aO x).lo (aO x).hi):=rfl;have l:(f_ (m<=m)&&true&&true&&f_ ((m+1)*248<=140737488355328)&&true)=true:=by simp only[ba,h_,bl];omega
 have tail:aS n n (bh (m+1) (m+1) (bh nw nw (an nw f f/\bh ng ng (an ng g g/\aS a a (aS fl fl (eX nu nu (eX de de (aS top top True)))))))):=aag A (aan A (aan A ⟨tB i,aan A ⟨tC j,aag A (aag A (aaY A (aaY A (aag A trivial))))⟩⟩));have both:∀p,aR (fV nw (aF f)) (.leaf x)=[p]->(fV nw (aF f) (aO x)=true/\p=jD (aO x))∨(fV nw (aF f) (aO x)=false/\p=wF x):=λp b=>by
  unfold aR at b
  grind
 have one:∃p,aR (fV nw (aF f)) (.leaf x)=[p]:=by
  unfold aR;cases fV nw (aF f) (aO x)with
  |true=>exact⟨_,rfl⟩
  |false=>exact⟨_,rfl⟩
 obtain⟨p,b⟩:=one;have c:=both p b;rw[b]at d⊢;simp only[g_]at d⊢;refine af.of_heap fU [qt] (aX PP II []) 1000 ?_;refine(S3 x nw f ng g a fl nu de top n m (m+1) F (gV m F [p])).mpr ?_;refine ZE _ _ (by rw[i,j];rfl) (ZE _ _ (by rw[h3];rfl) ?_);refine aaz (λh=>ZE _ _ l (aan A ⟨?_,tail⟩)) λh=>ZE _ _ l (aan A ⟨?_,tail⟩)
 ·have h:fV nw (aF f) (aO x)=true:=h;rcases c with⟨_,rfl⟩|⟨c,_⟩
  ·exact Jl A e A
  grind
 ·have h:fV nw (aF f) (aO x)=false:=h;rcases c with⟨c,_⟩|⟨_,rfl⟩
  grind
  ·exact Jl A e A
def S5(σ)(i):bj.bx σ (d_ 29 (b_ (0+i*29) (cA dj)))=d_ 29 (b_ (0+i*29) (cA dj))/\bj.le σ (d_ 29 (b_ (0+i*29) (cA dj))) (d_ 29 (b_ (0+i*29) (cA dj))):=by
 cases i with
 |zero=>exact⟨tA dj σ,Al dj σ⟩
 |succ i=>have:b_ (0+(i+1)*29) (cA dj)=[]:=l_ (by show 29<=_;omega);rw[this];exact⟨rfl,trivial⟩
def T9(l r:Tree)(t:Tree):Prop:=t=l∨t=r
def wQ{ex l r}:(ex (bc (aq l) (aq r))=true/\aR ex (.node l r)=[jD (bc (aq l) (aq r))])∨(ex (bc (aq l) (aq r))=false/\aR ex (.node l r)=dj::(aR ex l++aR ex r)):=by
 unfold aR;cases h:ex (bc (aq l) (aq r))with
 |true=>simp
 |false=>exact .inr ⟨rfl,by cases l<;>cases r<;>simp only[aR]⟩
def Oc{l r}(hl:xg l)(v:xg r):xg (.node l r):=by
 intro k n m F w d p;obtain⟨nw,f,ng,g,a,fl,nu,de,top⟩:=k;obtain⟨e,i,h3⟩:=qc w;simp only at d⊢;have s:m<=1000000->(f_ (m<=m)&&true&&true&&f_ ((m+1)*248<=140737488355328)&&true)=true:=λh=>Y
 have tail:∀{b:Nat},aS n n (bh b b (bh nw nw (an nw f f/\bh ng ng (an ng g g/\aS a a (aS fl fl (eX nu nu (eX de de (aS top top True)))))))):=aag A (aan A (aan A ⟨tB e,aan A ⟨tC i,aag A (aag A (aaY A (aaY A (aag A trivial))))⟩⟩));have u:∀t,T9 l r t->xg t:=λt ht=>by rcases ht with rfl|rfl;exact hl;exact v
 refine af.of_heap fU [qt,Lb (T9 l r) u] (aX PP II []) 1000 ?_;refine(S4 l r (T9 l r) u nw f ng g a fl nu de top n m _ F _).mpr ?_;rw[pn,pn,po,po];have x:jl (T9 l r) (.bW (cellsOf (aq l) (bJ l) (cy l)) 0)=true:=ll (t:=l) (.inl A);have y:jl (T9 l r) (.bW (cellsOf (aq r) (bJ r) (cy r)) 0)=true:=ll (t:=r) (.inr A);rw[x,y];have o:∀j,j<m+1->(λj=>bif a_ j m then F j else d_ 29 (b_ (0+(j-m)*29) (cA dj))) j=gV m F [dj] j:=λj q=>Lc A j q
 have c:bB (λj=>bif a_ j m then F j else d_ 29 (b_ (0+(j-m)*29) (cA dj)))=true:=by
  refine iP λσ j=>?_
  show bj.bx σ (bif a_ j m then F j else _)=(bif a_ j m then F j else _)/\bj.le σ (bif a_ j m then F j else _) (bif a_ j m then F j else _);cases a_ j m with
  |true=>exact⟨fO p σ j,dI p σ j⟩
  |false=>exact S5 σ (j-m)
 rcases wQ (ex:=fV nw (aF f)) (l:=l) (r:=r)with⟨C,hp⟩|⟨C,hp⟩
 ·rw[hp]at d⊢;simp only[g_]at d⊢;refine ZE _ _ (by rw[e,i];rfl) (ZE _ _ (by rw[h3];rfl) ?_);refine aaz (λh=>ZE _ _ (s O) (aan A ⟨Jl A p A,tail⟩)) λh=>?_
  have h:fV nw (aF f) (bc (aq l) (aq r))=false:=h
  grind
 ·rw[hp]at d⊢;simp only[p_,m_]at d⊢;generalize D:aR (fV nw (aF f)) l=pl at*;generalize E:aR (fV nw (aF f)) r=pr at*;have G:m+1+pl.length+pr.length=m+(pl.length+pr.length+1):=O;refine ZE _ _ (by rw[e,i];rfl) (ZE _ _ (by rw[h3];rfl) ?_);refine aaz (λh=>?_) λh=>?_
  ·have h:fV nw (aF f) (bc (aq l) (aq r))=true:=h
   grind
  ·refine ZE _ _ (s O) (ZE _ _ zA (ZE _ _ A (ZE _ _ ?_ (ZE _ _ zA (ZE _ _ A (ZE _ _ ?_ ?_))))))
   ·rw[e,i,h3];simp only[h_,ba,bl];exact⟨c,O⟩
   ·rw[e,i,h3];simp only[h_,ba,bl];exact⟨ib c,O⟩
   ·refine aan G ⟨sj (ib p) λj q=>Ld o j q,?_⟩
    grind
def Am:∀t,xg t
 | .leaf x=>Ob x
 | .node l r=>Oc (Am l) (Am r)
def my:bB (λ_=>[])=true:=iP λ_ _=>⟨rfl,trivial⟩
def S6{p F}(j)(a:j<1):bY (cA p) 29 j=gV 0 F [p] j:=by
 have a:j=0:=O;subst a;rfl
def S7{r p}(a:r=cA p):an 1 (bY r 29) (gV 0 (λ_=>[]) [p]):=by
 subst a;exact sj (ib my) λj b=>S6 j b
def Jm(x):SY (.leaf x):=by
 intro k n j d;obtain⟨nw,f,ng,g,a,fl,nu,de,top⟩:=k;obtain⟨e,i,h3⟩:=qc j;have tail:aS n n (bh 1 1 (bh nw nw (an nw f f/\bh ng ng (an ng g g/\aS a a (aS fl fl (eX nu nu (eX de de (aS top top True)))))))):=aag A (aan A (aan A ⟨tB e,aan A ⟨tC i,aag A (aag A (aaY A (aaY A (aag A trivial))))⟩⟩));have both:∀p,aR (fV nw (aF f)) (.leaf x)=[p]->(fV nw (aF f) (aO x)=true/\p=jD (aO x))∨(fV nw (aF f) (aO x)=false/\p=wF x):=λp c=>by
  unfold aR at c;cases b:fV nw (aF f) (aO x)with
  |true=>rw[b]at c;simp only[List.cons.injEq,and_true]at c;exact .inl ⟨rfl,c.symm⟩
  |false=>rw[b]at c;simp only[List.cons.injEq,and_true]at c;exact .inr ⟨rfl,c.symm⟩
 have one:∃p,aR (fV nw (aF f)) (.leaf x)=[p]:=by
  unfold aR;cases fV nw (aF f) (aO x)with
  |true=>exact⟨_,rfl⟩
  |false=>exact⟨_,rfl⟩
 obtain⟨p,c⟩:=one;have b:=both p c;rw[c]at d⊢;simp only[g_]at d⊢;refine af.of_heap fU [qt] (aX PP II []) 1000 ?_;refine(N9 x nw f ng g a fl nu de top n 1 (gV 0 (λ_=>[]) [p])).mpr ?_;refine ZE _ _ (by rw[e,i];rfl) (ZE _ _ (by rw[h3];rfl) ?_);refine aaz (λh=>aan A ⟨?_,tail⟩) λh=>aan A ⟨?_,tail⟩
 ·have h:fV nw (aF f) (aO x)=true:=h;rcases b with⟨_,rfl⟩|⟨b,_⟩
  ·exact S7 A
  ·rw[h]at b;cases b
 ·have h:fV nw (aF f) (aO x)=false:=h;rcases b with⟨b,_⟩|⟨_,rfl⟩
  ·rw[h]at b;cases b
  ·exact S7 A
def S8(σ)(i):bj.bx σ (bY (cA dj) 29 i)=bY (cA dj) 29 i/\bj.le σ (bY (cA dj) 29 i) (bY (cA dj) 29 i):=by
 cases i with
 |zero=>exact⟨tA dj σ,Al dj σ⟩
 |succ i=>
  have:bY (cA dj) 29 (i+1)=[]:=by unfold bY;rw[l_ (by show 29<=_;omega)];rfl
  rw[this];exact⟨rfl,trivial⟩
def Jn(l r):SY (.node l r):=by
 intro k n u d;obtain⟨nw,f,ng,g,a,fl,nu,de,top⟩:=k;obtain⟨e,i,h3⟩:=qc u;simp only at d⊢;have tail:∀{b:Nat},aS n n (bh b b (bh nw nw (an nw f f/\bh ng ng (an ng g g/\aS a a (aS fl fl (eX nu nu (eX de de (aS top top True)))))))):=aag A (aan A (aan A ⟨tB e,aan A ⟨tC i,aag A (aag A (aaY A (aaY A (aag A trivial))))⟩⟩));have q:∀t,T9 l r t->xg t:=λt _=>Am t
 refine af.of_heap fU [qt,Lb (T9 l r) q] (aX PP II []) 1000 ?_;refine(Oa l r (T9 l r) q nw f ng g a fl nu de top n _ _).mpr ?_;rw[pn,pn,po,po];have v:jl (T9 l r) (.bW (cellsOf (aq l) (bJ l) (cy l)) 0)=true:=ll (t:=l) (.inl A);have w:jl (T9 l r) (.bW (cellsOf (aq r) (bJ r) (cy r)) 0)=true:=ll (t:=r) (.inr A);rw[v,w];have c:bB (bY (cA dj) 29)=true:=iP λσ j=>S8 σ j
 rcases wQ (ex:=fV nw (aF f)) (l:=l) (r:=r)with⟨o,hp⟩|⟨o,hp⟩
 ·rw[hp]at d⊢;simp only[g_]at d⊢;refine ZE _ _ (by rw[e,i];rfl) (ZE _ _ (by rw[h3];rfl) ?_);refine aaz (λh=>aan A ⟨S7 A,tail⟩) λh=>?_
  have h:fV nw (aF f) (bc (aq l) (aq r))=false:=h;rw[h]at o;cases o
 ·rw[hp]at d⊢;simp only[p_,m_]at d⊢;generalize x:aR (fV nw (aF f)) l=pl at*;generalize y:aR (fV nw (aF f)) r=pr at*;have s:1+pl.length+pr.length=pl.length+pr.length+1:=O;refine ZE _ _ (by rw[e,i];rfl) (ZE _ _ (by rw[h3];rfl) ?_);refine aaz (λh=>?_) λh=>?_
  ·have h:fV nw (aF f) (bc (aq l) (aq r))=true:=h;rw[h]at o;cases o
  ·refine ZE _ _ A (ZE _ _ ?_ (ZE _ _ zA (ZE _ _ A (ZE _ _ ?_ ?_))))
   ·rw[e,i,h3];simp only[h_,ba,bl];exact⟨c,O⟩
   ·rw[e,i,h3];simp only[h_,ba,bl];exact⟨ib c,O⟩
   ·refine aan s ⟨sj (ib my) λj C=>?_,?_⟩
    ·have:=Ld (m:=0) (F:=λ_=>[]) (F1:=bY (cA dj) 29) (p:=dj) (pl:=pl) (pr:=pr) (λj C=>S6 j O) j O;rw[v_]at this;exact this
    ·rw[s];exact tail
def Od:∀t,SY t
 | .leaf x=>Jm x
 | .node l r=>Jn l r
end
end Go.Sx
