/- The proof of a statement of the seat, part 33. -/
import Derived.Test.YtleifmkjbmhlpaaGreatDoorX26
import Derived.Test.YtleifmkjbmhlpaaGreatDoorX32
import Derived.Test.YtleifmkjbmhlpaaGreatDoorX10
import Derived.Test.YtleifmkjbmhlpaaGreatDoorX28
set_option linter.all false
set_option linter.defProp false
set_option maxRecDepth 1000000
namespace Go.Sx
open Go
open Int renaming ofNat->M,toNat->a_,tdiv->i_,natCast_nonneg->s_,le_refl->E_
open Decidable renaming decide->z
open Go.IntKind renaming i64->b_
open Nat renaming gcd->c_,blt->g_,one_pos->l_,zero_le->r_,gcd_dvd_right->x_,div_le_self->A_,ble->D_
open Tr renaming ofList->d_
open Bool renaming not_eq_false'->e_,not_eq_true'->f_,or_eq_true->m_,true_and->C_
open AV renaming str->h_,ae->j_,le->k_,agg->p_,int->u_,bool->y_,bM->F_,bx->G_
open List renaming range->n_,all->o_,all_eq_true->t_,take->v_,drop->w_
noncomputable section
def HR:AH:={n:=14,t:=d_ [(0,.cells [.ae 5 2 aC] .ro),(1,.cells [.str [48],.str [49]] .ro),(3,.cells [.map (some 13)] .ro),(6,.cells dS (.ex 20)),(13,.map oW)]}
def I6(b:aae):Bool:=match b with
 | .cells [.str [48],.str [49]] .ro=>true
 |_=>false
def SD(b:aae):Bool:=match b with
 | .cells [.map (some 13)] .ro=>true
 |_=>false
def DP(b:aae):Bool:=match b with
 | .map [(.any,.any),(.int b_ 1,.agg [.fn 317 [] []]),(.int b_ 2,.agg [.fn 319 [] []]),(.int b_ 3,.agg [.fn 321 [] []]),(.int b_ 4,.agg [.fn 323 [] []]),(.int b_ 5,.agg [.fn 324 [] []])]=>true
 |_=>false
def NQ{b}(h:I6 b=true):b= .cells [.str [48],.str [49]] .ro:=by
 unfold I6 at h
 grind
def SE{b}(h:SD b=true):b= .cells [.map (some 13)] .ro:=by
 unfold SD at h
 grind
def I7{b}(h:DP b=true):b= .map oW:=by
 unfold DP at h;split at h<;>first|rfl|cases h
def SF(H:AH):Bool:=D_ 14 H.n&&uI (H.get 0)&&I6 (H.get 1)&&SD (H.get 3)&&QX H&&DP (H.get 13)
def zz(i):HR.get i=if i=0 then .cells [.ae 5 2 aC] .ro else if i=1 then .cells [.str [48],.str [49]] .ro else if i=3 then .cells [.map (some 13)] .ro else if i=6 then .cells dS (.ex 20)else if i=13 then .map oW else .dead:=by
 show AH.get {n:=14,t:=d_ [(0,_),(1,_),(3,_),(6,_),(13,_)]} i=_;simp only[AH.get,d_,Tr.bk,Tr.nK]
 grind
def af.aaC{P I f args a H0 H}(h:af P I f args H0 (.ret a H0))(hG:I.G<=H0.n)(y:H0.n<=H.n)(b:∀i,H0.n<=i->H0.get i= .dead)
  (o:∀i,H0.get i≠ .dead->H.get i=H0.get i/\∀σ,(∀j,j<H0.n->σ j=j)->(H0.get i).bx σ=H0.get i) (d:∀σ,bj.bx σ args=args) (ha:∀σ,a.bx σ=a):
  af P I f args H (.ret a H):=by
 intro c ρ w vs q u t
 let σ:Nat->Nat:=λl=>if l<H0.n then l else H.n+(l-H0.n)
 have m:∀i,i<H0.n->σ i=i:=λi hi=>Y
 have s:∀i,H0.get i≠ .dead->i<H0.n:=Y;have v:Sub I.G σ H0 H :=
  {lt:=λl hl=>by rw[m l hl];omega
   ge:=λl hl=>Y
   same:=Y
   inj:=Y
   eZ:=λg C=>Y
   low:=b}
 have ht:EE σ H0 (CO.ret a H0).heap H H :=
  {n:=by show H.n=H.n+(H0.n-H0.n);omega
   old:=λl hl=>by
    show H.get (σ l)=(H0.get l).bx σ
    grind
   new:=λl hl=>by show H.get (σ l)=(H0.get l).bx σ;rw[b l hl];simp only[σ,if_neg (Nat.not_lt.2 hl)];rw[t.low _ O];rfl
   rest:=λ_ _ _=>rfl}
 have:=h.lift v ht;rw[d]at this;have e:(CO.ret a H0).jt σ H= .ret a H:=by show CO.ret (a.bx σ) H=_;rw[ha]
 rw[e]at this;exact this c ρ w vs q u t
def af.aaD{f:FuncId}{args:List AV}{a:AV}{H:AH}(h:af PP II f args (H.set 0 (.cells [.ae 5 2 aC] .ro)) (.ret a (H.set 0 (.cells [.ae 5 2 aC] .ro))))(m:uI (H.get 0)=true):af PP II f args H (.ret a H):=by
 obtain⟨g,o,C⟩:=zy m;have key:∀(b D:aae),(∃x y,b= .cells [.ae 5 2 x] .ro/\D= .cells [.ae 5 2 y] .ro/\(∀i,i<5->x i=aC i)/\∀i,i<5->y i=aC i)->∀c ρ w (H H':AH),H.get 0=b->H'.n=H.n->(∀l,H'.get l=if l=0 then D else H.get l)->Rel c ρ H w->Rel c ρ H' w:=by
  rintro _ _ ⟨x,y,rfl,rfl,hx,F⟩ c ρ w H H' m G o j
  refine j.same G (λl hl=>?_) (λl=>?_) λl=>?_
  ·rw[o];by_cases e:l=0
   ·subst e;rw[if_pos A];rw[m]at hl;exact YX hx F hl
   grind
  ·rw[o];by_cases e:l=0
   ·subst e;rw[if_pos A,m];rfl
   ·rw[if_neg e]
  ·grind
 have q:∀c ρ w,Rel c ρ H w->Rel c ρ (H.set 0 (.cells [.ae 5 2 aC] .ro)) w:=λc ρ w j=>
  key _ _ ⟨_,_,rfl,rfl,C,λ_ _=>rfl⟩ c ρ w H _ o A (λl=>AH.bk _ _ _ _) j
 have back:∀c ρ w,Rel c ρ (H.set 0 (.cells [.ae 5 2 aC] .ro)) w->Rel c ρ H w:=λc ρ w j=>
  key (.cells [.ae 5 2 aC] .ro) (.cells [.ae 5 2 g] .ro) ⟨_,_,rfl,rfl,λ_ _=>rfl,C⟩ c ρ w _ _ (AH.get_set_same _ _ _) A (λl=>by
   by_cases e:l=0
   grind
   ·rw[if_neg e,AH.aL _ _ (λd=>e d.symm)]) j
 intro c ρ w vs hG I j;have post:∀e w',(CO.ret a (H.set 0 (.cells [.ae 5 2 aC] .ro))).post c ρ e w'->(CO.ret a H).post c ρ e w':=by
  intro e w' s;cases e with
  |returned v=>obtain⟨ρ',hx,t,u⟩:=s;exact⟨ρ',hx,back _ _ _ t,u⟩
  |panicked J=>exact s.elim
  |outgrown=>exact s.elim
 rcases h c ρ w vs hG I (q _ _ _ j)with⟨h1,E⟩|⟨v,w',h1,E⟩
 ·exact .inl ⟨h1,E.mono post⟩
 grind
def FX{H}(h:SF H=true):14<=H.n/\uI (H.get 0)=true/\H.get 1= .cells [.str [48],.str [49]] .ro/\H.get 3= .cells [.map (some 13)] .ro/\H.get 6= .cells dS (.ex 20)/\H.get 13= .map oW:=by
 unfold SF QX at h;simp only[ba]at h;exact⟨by simp_all,h.1.1.1.1.2,NQ h.1.1.1.2,SE h.1.1.2,vJ h.1.2,I7 h.2⟩
def af.I8{f args a H}(h:af PP II f args HR (.ret a HR))(t:SF H=true)(c:∀σ,bj.bx σ args=args)(ha:∀σ,a.bx σ=a):af PP II f args H (.ret a H):=by
 obtain⟨u,v,w,h3,y,j⟩:=FX t;refine af.aaD (af.aaC (H0:=HR) h zC zI (λi hi=>?_) (λi d=>?_) c ha) v
 ·have hi:14<=i:=hi;rw[zz,if_neg O,if_neg O,if_neg O,if_neg O,if_neg O]
 ·rw[zz]at d⊢;by_cases l:i=0
  ·subst l;rw[AH.get_set_same];exact⟨rfl,λ_ _=>rfl⟩
  ·rw[AH.aL _ _ (λb=>l b.symm)];rw[if_neg l]at d⊢;by_cases o:i=1
   ·subst o;exact⟨w,λ_ _=>rfl⟩
   ·rw[if_neg o]at d⊢;by_cases q:i=3
    ·subst q;refine⟨h3,λσ m=>?_⟩;show aae.cells [.map (some (σ 13))] .ro=_;rw[m 13 zC];rfl
    ·rw[if_neg q]at d⊢;by_cases s:i=6
     ·subst s;refine⟨y,λσ _=>?_⟩;rfl
     ·rw[if_neg s]at d⊢;by_cases I2:i=13
      ·subst I2;exact⟨j,λ_ _=>rfl⟩
      grind
def ax.I8(f:FuncId)(spec:{R:Type}->RI R->List AV->(AV->R)->R)
  (ok:∀{R:Type}(X:RI R)(sem:R->Prop),X.Ok sem->∀args b,sem (spec X args b)->∃a,sem (b a)/\(∀σ,a.bx σ=a)/\(∀σ,bj.bx σ args=args)/\af PP II f args HR (.ret a HR)):ax PP II where
 f:=f
 spec X args H b _:=kJ X 100000 args H λargs' H'=>X.ag (SF H') (spec X args' λa=>b a H')
 ok X sem hX args H b kp h:=by obtain⟨args',H',c,d⟩:=iy hX _ _ _ _ h;obtain⟨i,c⟩:=hX.ag _ _ c;obtain⟨a,k1,k2,j,l⟩:=ok X sem hX _ _ c;exact⟨.ret a H',k1,(l.I8 i j k2).pO d⟩
abbrev kq(ks:List (ax PP II))(T:l6)(f:FuncId)(args:List AV)(Q:AV->Prop):Prop :=
 ka ks (mO PP II T) 1000 f args HR (λa H=>tK RI.l3 100000 a H λa' H2=>B (SF H2) (Q a')) (λ_ _=>False)
def wH{ks T f args a'}(h:kq ks T f args (λa=> ∀σ,k_ σ a a')):af PP II f args HR (.ret a' HR):=by
 obtain⟨o,e,k⟩:=iJ fU ks (aX PP II T) 1000 f args HR _ _ h;cases o with
 |ret a H1=>
  obtain⟨x,H2,k1,k2⟩:=lz RI.dX _ _ _ _ e;obtain⟨m,k1⟩:=aaZ k1;have k1:∀σ,k_ σ x a':=k1;obtain⟨d,p,q,r,s,I2⟩:=FX m;obtain⟨g,t,u⟩:=zy p;refine(k.yu k2).le (mM.of [] (ie.of (by rfl) A A A (il d) (fI.2 λl hl=>?_)) (k1 _));have hl:l<14:=hl;have b:∀i,i<14->sig HR.n [] H2.n i=i:=λi hi=>by show sig 14 [] H2.n i=i;unfold sig;rw[show g_ i 14=true from by simp_all];rfl
  rw[zz];by_cases c0:l=0
  ·subst c0;rw[if_pos A];show if sig HR.n [] H2.n 0<H2.n then aae.le (sig HR.n [] H2.n) (H2.get (sig HR.n [] H2.n 0)) (aae.cells [.ae 5 2 aC] .ro)else _
   rw[b 0 zC,if_pos O,t];exact⟨⟨⟨rfl,rfl,λi hi=>by rw[u i hi];exact bV i hi _⟩,trivial⟩,trivial⟩
  ·rw[if_neg c0];by_cases c1:l=1
   ·subst c1;rw[if_pos A];show if sig HR.n [] H2.n 1<H2.n then aae.le (sig HR.n [] H2.n) (H2.get (sig HR.n [] H2.n 1)) _ else _
    rw[b 1 zC,if_pos O,q];exact⟨⟨rfl,rfl,trivial⟩,trivial⟩
   ·rw[if_neg c1];by_cases c3:l=3
    ·subst c3;rw[if_pos A];show if sig HR.n [] H2.n 3<H2.n then aae.le (sig HR.n [] H2.n) (H2.get (sig HR.n [] H2.n 3)) _ else _
     rw[b 3 zC,if_pos O,r];exact⟨⟨by rfl,trivial⟩,trivial⟩
    ·rw[if_neg c3];by_cases j:l=6
     ·subst j;rw[if_pos A];show if sig HR.n [] H2.n 6<H2.n then aae.le (sig HR.n [] H2.n) (H2.get (sig HR.n [] H2.n 6)) _ else _
      rw[b 6 zC,if_pos O,s];exact⟨vK _,rfl⟩
     ·rw[if_neg j];by_cases c:l=13
      ·subst c;rw[if_pos A];show if sig HR.n [] H2.n 13<H2.n then aae.le (sig HR.n [] H2.n) (H2.get (sig HR.n [] H2.n 13)) _ else _
       rw[b 13 zC,if_pos O,I2];refine⟨rfl,?_,?_⟩
       ·simp[iE,oW,bj.le,k_]
       ·simp[iE,oW,bj.le,k_]
      ·rw[if_neg c];trivial
 |rL a H1=>exact e.elim
def FY(q:Query)(x:ao)(d:Int)(i:Int):St:={t:=d_ [(0,.ae q.nw 3 (av q.C)),(1,.fn 210 [] [.ptr 13 0 0 0,.ptr 14 0 0 0]),(7,.int b_ (M q.nw)),(8,.int b_ i)],nt:=19,H:={n:=15,t:=d_ [(0,.cells [.ae 5 2 aC] .ro),(13,.cells (aB x) (.ty 43)),(14,.cells [.int b_ d] (.ty 3))]},df:=[]}
def aaE:AH:={n:=15,t:=d_ [(0,.cells [.ae 5 2 aC] .ro)]}
def Ba(b:Bool)(a:Int):GE:=.cond b (.one (.r {t:=d_ [(4,.int b_ a)],nt:=19,H:=aaE,df:=[]})) (.one (.x 0 {t:=.e,nt:=19,H:=aaE,df:=[]}))
def z6(q)(x)(d)(b)(g)(i)(Q){e}(j:e=(B (aJ b_ (i+1)) (zyI d (zyI x.t (zyI x.s (zyI x.v (zyI x.w (zyI x.o (zyI x.p (zyI x.d (zyI x.l (zyI x.h (zyI x.b (zyR 5 aC (zyI (M q.nw) (zyN q.nw (zyR q.nw (av q.C) (zyI (i+1) Q)))))))))))))))))){a}(k:a=(z (q.C i.toNat 1=q.C i.toNat 1))){c}(m:c=(z (q.C i.toNat 2=q.C i.toNat 2))){f}(n:f=(ak b (zyR 5 aC (aS i g True)) False)):(kr [kx] [] 242 2001 15 (FY q x d) (λ_=>Ba b g) (λi=>i+1) Q i)=(ak (z (i<M q.nw)) (B (z (0<=i)&&z (i<M q.nw)) (ak (z (q.C i.toNat 1=0)) (B a (B c False)) (ak (z (q.C i.toNat 1=1)) (B a (B c (ak (!decide (lF x (q.C i.toNat 0) d=q.C i.toNat 2)) f e))) (ak (z (q.C i.toNat 1=2)) (B a (B c (ak (!!decide (lF x (q.C i.toNat 0) d=q.C i.toNat 2)) f e))) (ak (z (q.C i.toNat 1=3)) (B a (B c (ak (!decide (lF x (q.C i.toNat 0) d<q.C i.toNat 2)) f e))) (ak (z (q.C i.toNat 1=4)) (B a (B c (ak (!decide (lF x (q.C i.toNat 0) d>=q.C i.toNat 2)) f e))) False)))))) (ak b False (zyR 5 aC True))):=by subst_vars;kernel_rfl
def SG(q)(x)(d)(b)(a)(Q):(ko [kx] [(2001,15,FY q x d 0,Ba b a)] 174 [.agg (aZ q),.agg (aB x),.int b_ d] Q)=(ay PP II false (az II 242 2001) 15 (FY q x d 0) (Ba b a)/\zyI d (zyI x.t (zyI x.s (zyI x.v (zyI x.w (zyI x.o (zyI x.p (zyI x.d (zyI x.l (zyI x.h (zyI x.b (zyR 5 aC (zyI (M q.nw) (zyN q.nw (zyR q.nw (av q.C) (ak b (aae.cells [j_ 5 2 aC] Access.ro=aae.cells [j_ 5 2 aC] Access.ro/\Q (y_ !decide (a>=0))) (aae.cells [j_ 5 2 aC] Access.ro=aae.cells [j_ 5 2 aC] Access.ro/\Q (y_ true)))))))))))))))))):=U
def nW(q:Query)(x:ao)(d:Int)(j:Nat):Bool:=Sz (q.C j 1) (lF x (q.C j 0) d) (q.C j 2)
def eU(q:Query)(x:ao)(d:Int):Bool:=(n_ q.nw).all (nW q x d)
def Bb(q:Query)(x:ao)(d:Int):Int:=match(n_ q.nw).find? λj=>!nW q x d j with|some j=>(j:Int)|none=>0
def I9{p n j}(a:j<n)(b:∀k,k<j->p k=false)(c:p j=true):(n_ n).find? p=Option.some j:=by
 simp_all
def FZ(q)(x)(d)(b)(a)(i)(j:Nat)(l:i=(j:Int))(r:q.nw<=6)(s:j<q.nw)(t:1<=q.C j 1/\q.C j 1<=4)(Q)
  (hQ:nW q x d j=true->Q) (f:nW q x d j=false->b=true/\i=a):kr [kx] [] 242 2001 15 (FY q x d) (λ_=>Ba b a) (λi=>i+1) Q i:=by
 rw[z6 _ _ _ _ _ _ _ A A A A];have m:a_ i=j:=O;have u:M q.nw=(q.nw:Int):=rfl;rw[m];unfold nW Sz at hQ f;generalize q.C j 1=o at*;generalize q.C j 2=N at*;generalize lF x (q.C j 0) d=v at*;have c:aJ b_ (i+1)=true:=ai O O;have n:(z (0<=i)&&z (i<M q.nw))=true:=by simp only[ba,bl];omega
 have e:∀(p:Bool),(p=true->z ((o=1/\v=N)∨(o=2/\v≠N)∨(o=3/\v<N)∨(o=4/\N<=v))=false)->p=true->ak b (an 5 aC aC/\aS i a True) False:=λp g k=>by obtain⟨h3,h4⟩:=f (g k);rw[h3];exact⟨bV,aag h4 trivial⟩
 refine aaA (λ_=>?_) λh=>absurd h O
 refine ZE _ _ n ?_;refine aaA (λh=>absurd h O) λ_=>?_
 refine aaA (λg=>?_) λg1=>aaA (λk=>?_) λg2=>aaA (λh3=>?_) λg3=>aaA (λh4=>?_) λg4=>O
 all_goals
  refine ZE _ _ (bK A) (ZE _ _ (bK A) (aaz (λh=>e _ (λh=>?_) h) λh=>ZE _ _ c ?_))
 ·simp only[f_,je]at h⊢;omega
 ·have:=hQ (by simp only[e_,bl]at h⊢;omega);exact zW
 ·simp only[f_,e_,bl,je]at h⊢;omega
 ·have:=hQ (by simp only[f_,e_,bl,je]at h⊢;omega);exact zW
 ·simp only[f_,je]at h⊢;omega
 ·have:=hQ (by simp only[e_,bl]at h⊢;omega);exact zW
 ·simp only[f_,je]at h⊢;omega
 ·have:=hQ (by simp only[e_,bl]at h⊢;omega);exact zW
def Ja(q)(x)(d)(l:fx q=true):ay PP II false (az II 242 2001) 15 (FY q x d 0) (Ba (!eU q x d) (Bb q x d)):=by
 obtain⟨m,n⟩:=gM l;have key:=ay.of (ι:=Nat) fU [kx] (aX PP II []) 1000 (c:=az II 242 2001) (ir:=false) 15 (λj=>j<=q.nw/\∀k,k<j->nW q x d k=true) (λj=>FY q x d (j:Int)) (λ_=>Ba (!eU q x d) (Bb q x d)) (λj=>q.nw-j) (λj=>j+1) 0 A ⟨r_ _,λk b=>absurd b (qx _)⟩ λj g=>?_
 ·exact key
 obtain⟨p,f⟩:=g;by_cases a:j<q.nw
 ·refine FZ q x d (!eU q x d) (Bb q x d) (j:Int) j A m a (n j a).2.1 ((j+1<=q.nw/\∀k,k<j+1->nW q x d k=true)/\q.nw-(j+1)<q.nw-j/\(Ba (!eU q x d) (Bb q x d)).pick=(Ba (!eU q x d) (Bb q x d)).pick) (λh=>⟨⟨a,λk b=>?_⟩,O,rfl⟩) λh=>⟨?_,?_⟩
  ·by_cases e:k=j
   ·rw[e];exact h
   ·exact f k O
  ·have:eU q x d=false:=by
    unfold eU;rw[List.all_eq_false];exact⟨j,List.mem_range.2 a,by rw[h];exact Bool.false_ne_true⟩
   rw[this];rfl
  ·unfold Bb;rw[I9 a (λk b=>by rw[f k b];rfl) (by rw[h];rfl)]
 ·have g:j=q.nw:=by omega
  have ht:eU q x d=true:=by unfold eU;rw[t_];exactλk b=>f k (by have:=List.mem_range.1 b;omega)
  rw[ht];have done:∀(i:Int)(Q:Prop),i=(q.nw:Int)->kr [kx] [] 242 2001 15 (FY q x d) (λ_=>Ba (!true) (Bb q x d)) (λi=>i+1) Q i:=λi Q o=>by
   rw[z6 _ _ _ _ _ _ _ A A A A];have r:M q.nw=(q.nw:Int):=rfl;refine aaA (λh=>absurd h O) λ_=>?_
   exact⟨bV,trivial⟩
  exact done (j:Int) _ O
def F0{q x d}(a:fx q=true):af PP II 174 [.agg (aZ q),.agg (aB x),.int b_ d] HO (.ret (.bool (eU q x d)) HO):=by
 refine FW (ks:=[kx]) (T:=[(2001,15,FY q x d 0,Ba (!eU q x d) (Bb q x d))]) (λσ=>rfl) ?_;rw[SG];refine⟨Ja q x d a,?_⟩;have b:Bb q x d>=0:=by unfold Bb;split<;>omega
 repeat' (first|exact bV|exact cM _ _|refine aag A ?_|refine aan A ?_|refine And.intro ?_ ?_)
 cases eU q x d with
 |true=>exact⟨rfl,rfl⟩
 |false=>exact⟨rfl,by rw[bK b];rfl⟩
def Ce:ax PP II where
 f:=174
 spec X args H i _:=kJ X 100000 args H λargs' H'=>X.ag (uI (H'.get 0)) (match args' with
  |[.agg [.ae nw 3 f,.ae ng 1 g,.int b_ a,.int b_ fl,.str nu,.str de,.int b_ top],.agg cs,.int b_ d]=>X.ag (ar 3 nw f&&ar 1 ng g) (X.ag (fx ⟨nw,aF f,ng,λj=>cT (g j) 0,a,fl,nu,de,top⟩) (match jJ cs with
   |some x=>i (.bool (eU ⟨nw,aF f,ng,λj=>cT (g j) 0,a,fl,nu,de,top⟩ x d)) H'
   |none=>X.fail))
  |_=>X.fail)
 ok X sem hX args H i kp h:=by
  obtain⟨args',H',b,k⟩:=iy hX _ _ _ _ h;obtain⟨l,b⟩:=hX.ag _ _ b;split at b
  ·rename_i nw f ng g a fl nu de top cs d k;obtain⟨k1,k2⟩:=hX.ag _ _ b;obtain⟨m,c⟩:=hX.ag _ _ k2;split at c
   ·rename_i x hx;have e:=gI hx;subst e;simp only[ba]at k1;have n:=(F0 (q:=⟨nw,aF f,ng,λj=>cT (g j) 0,a,fl,nu,de,top⟩) (x:=x) (d:=d) m).cS (args:=[.agg [.ae nw 3 f,.ae ng 1 g,.int b_ a,.int b_ fl,.str nu,.str de,.int b_ top],.agg (aB x),.int b_ d]) ⟨kO k1.1 k1.2,⟨⟨rfl,rfl⟩,⟨rfl,rfl⟩,⟨rfl,rfl⟩,⟨rfl,rfl⟩,⟨rfl,rfl⟩,⟨rfl,rfl⟩,⟨rfl,rfl⟩,⟨rfl,rfl⟩,⟨rfl,rfl⟩,⟨rfl,rfl⟩,trivial⟩,⟨rfl,rfl⟩,trivial⟩;exact⟨.ret _ H',c,(n.I5 l (λ_=>rfl) λ_=>rfl).pO k⟩
   ·exact absurd c hX.fail
  ·exact absurd b hX.fail
def F2(q)(x)(d)(Q){b}(f:b=(aae.cells [j_ 5 2 aC] Access.ro=aae.cells [j_ 5 2 aC] Access.ro/\Q (F_ [y_ false,u_ b_ 190]))){c}(g:c=(fx {nw:=q.nw,C:=aF (av q.C),ng:=q.ng,G:=λj=>q.G j,a:=q.a,fl:=q.fl,nu:=q.nu,de:=q.de,top:=q.top})){e}(i:e=(ar 3 q.nw (av q.C)&&ar 1 q.ng (aN q.G))):(ko [kU,lA,Ce] [] 141 [.agg (aZ q),.agg (aB x),.int b_ d] Q)=(B e (B c (ak (!bE x) b (ak (z (d>=x.l)) (ak (!decide (d<=x.h)) b (B e (B c (aae.cells [j_ 5 2 aC] Access.ro=aae.cells [j_ 5 2 aC] Access.ro/\Q (F_ [y_ (eU {nw:=q.nw,C:=aF (av q.C),ng:=q.ng,G:=λj=>q.G j,a:=q.a,fl:=q.fl,nu:=q.nu,de:=q.de,top:=q.top} x d),u_ b_ 0]))))) b)))):=by subst_vars;kernel_rfl
def toQ:List AV->Option Query
 |[.ae nw 3 f,.ae ng 1 g,.int b_ a,.int b_ fl,.str nu,.str de,.int b_ top]=>Option.some ⟨nw,aF f,ng,λj=>cT (g j) 0,a,fl,nu,de,top⟩
 |_=>Option.none
def jw:List AV->Bool
 |[.ae nw 3 f,.ae ng 1 g,.int b_ _,.int b_ _,.str _,.str _,.int b_ _]=>ar 3 nw f&&ar 1 ng g
 |_=>false
def toQ_le{cs q}(h:toQ cs=Option.some q)(k:jw cs=true):k_ (λl=>l) (.agg cs) (.agg (aZ q)):=by
 unfold toQ at h;split at h
 ·cases h;simp only[jw,ba]at k;exact kO k.1 k.2
 ·cases h
def DQ(x):k_ (λl=>l) (.agg (aB x)) (.agg (aB x)):=⟨⟨rfl,rfl⟩,⟨rfl,rfl⟩,⟨rfl,rfl⟩,⟨rfl,rfl⟩,⟨rfl,rfl⟩,⟨rfl,rfl⟩,⟨rfl,rfl⟩,⟨rfl,rfl⟩,⟨rfl,rfl⟩,⟨rfl,rfl⟩,trivial⟩
def K1(x:ao)(d:Int):Bool:=z (d>=x.l)&&z (d<=x.h)
def F3{q x d}(b:ar 3 q.nw (av q.C)=true)(c:ar 1 q.ng (aN q.G)=true)(e:fx q=true)(hx:bE x=true):
  af PP II 141 [.agg (aZ q),.agg (aB x),.int b_ d] HO (.ret (.bM [.bool (K1 x d&&eU q x d),.int b_ (match K1 x d with|true=>0|false=>190)]) HO):=by
 refine FW (ks:=[kU,lA,Ce]) (T:=[]) (λσ=>⟨rfl,⟨rfl,rfl⟩,trivial⟩) ?_;rw[F2 _ _ _ _ A A A,b,c,show fx _=true from(lc q).trans e,hx];refine ZE _ _ A (ZE _ _ A ?_);show ak (z (d>=x.l)) _ _;refine aaz (λh=>aaz (λa=>?_) λa=>?_) λh=>?_
 ·have a:z (d<=x.h)=false:=by simpa using a
  unfold K1;grind
 ·have a:z (d<=x.h)=true:=by simpa using a
  unfold K1;rw[h,a];exact ZE _ _ A (ZE _ _ A ⟨rfl,rfl⟩)
 ·unfold K1;grind
def af.VS{P I f x y a b d i H o}(h:af P I f [b,d,i] H o)(k1:k_ (λl=>l) x b)(k2:k_ (λl=>l) y d)(j:k_ (λl=>l) a i):af P I f [x,y,a] H o :=
 λc ρ w vs hG m q=>h c ρ w vs hG (aV.yA (show bj.le _ [x,y,a] [b,d,i]from⟨k1,k2,j,trivial⟩) m) q
def af.iM{P I f x y a b H o}(h:af P I f [a,b] H o)(k1:k_ (λl=>l) x a)(k2:k_ (λl=>l) y b):af P I f [x,y] H o :=
 λc ρ w vs hG d i=>h c ρ w vs hG (aV.yA (show bj.le _ [x,y] [a,b]from⟨k1,k2,trivial⟩) d) i
def F4{cs q}(h:toQ cs=Option.some q)(k:jw cs=true):ar 3 q.nw (av q.C)=true/\ar 1 q.ng (aN q.G)=true:=by
 unfold toQ at h;split at h
 ·cases h;simp only[jw,ba]at k;exact⟨sg k.1,vN k.2⟩
 ·cases h
def ax.I5(f:FuncId)(spec:{R:Type}->RI R->List AV->(AV->R)->R)
  (ok:∀{R:Type}(X:RI R)(sem:R->Prop),X.Ok sem->∀args b,sem (spec X args b)->∃a,sem (b a)/\(∀σ,a.bx σ=a)/\(∀σ,bj.bx σ args=args)/\af PP II f args HO (.ret a HO)):ax PP II where
 f:=f
 spec X args H b _:=kJ X 100000 args H λargs' H'=>X.ag (uI (H'.get 0)) (spec X args' λa=>b a H')
 ok X sem hX args H b kp h:=by obtain⟨args',H',c,d⟩:=iy hX _ _ _ _ h;obtain⟨i,c⟩:=hX.ag _ _ c;obtain⟨a,k1,k2,j,l⟩:=ok X sem hX _ _ c;exact⟨.ret a H',k1,(l.I5 i j k2).pO d⟩
def uJ{cs q}(h:toQ cs=Option.some q)(σ):G_ σ (.agg cs)= .agg cs:=by
 unfold toQ at h;split at h
 ·rfl
 ·cases h
def oo:ax PP II:=ax.I5 141
 (λX args c=>match args with
  |[.agg cs,.agg ds,.int b_ d]=>match toQ cs,jJ ds with
   |some q,some x=>X.ag (jw cs&&fx q&&bE x) (c (.bM [.bool (K1 x d&&eU q x d),.int b_ (match K1 x d with|true=>0|false=>190)]))
   |_,_=>X.fail
  |_=>X.fail)
 λX sem hX args c h=>by
  split at h
  ·split at h
   ·rename_i q x b hx;obtain⟨a,e⟩:=hX.ag _ _ h;simp only[ba]at a;cases gI hx;obtain⟨r1,f⟩:=F4 b a.1.1;refine⟨_,e,λ_=>rfl,λσ=>?_,af.VS (F3 r1 f a.1.2 a.2) (toQ_le b a.1.1) (DQ x) ⟨rfl,rfl⟩⟩;show [G_ σ (.agg _),_,_]=_;rw[uJ b];rfl
   ·exact zR
  ·exact zR
def F5(q:Query)(x:ao)(K:Nat->Int)(i:Int):St:={t:=d_ [(3,.ptr 13 0 0 0),(6,.own 14 i.toNat 1),(18,.ae q.ng 1 (aN q.G)),(19,.int b_ (M q.ng)),(20,.int b_ i)],nt:=32,H:={n:=15,t:=d_ [(0,.cells [.ae 5 2 aC] .ro),(13,.cells (aB x) (.ty 43)),(14,.rows i.toNat 1 (ah K) (.ty 3))]},df:=[]}
def Bc(n:Nat)(K:Nat->Int):GE:=.one (.x 0 {t:=d_ [(6,.own 14 n 1)],nt:=32,H:={n:=15,t:=d_ [(0,.cells [.ae 5 2 aC] .ro),(14,.rows n 1 (ah K) (.ty 3))]},df:=[]})
def F6(q)(x)(K)(i)(Q):(kr [kx] [] 101 5001 14 (F5 q x K) (λ_=>Bc q.ng K) (λi=>i+1) Q i)=(ak (z (i<M q.ng)) (B (z (0<=i)&&z (i<M q.ng)) (B (z (i.toNat<=i.toNat)&&true&&true&&z ((i.toNat+1)*8<=140737488355328)&&true) (B (aJ b_ (i+1)) (bh (i.toNat+1) (a_ (i+1)) (an (i.toNat+1) (λa=>bif g_ a i.toNat then ah K a else v_ 1 (w_ (0+(a-i.toNat)*1) [u_ b_ (lF x (q.G i.toNat) 0)])) (ah K)/\zyI x.t (zyI x.s (zyI x.v (zyI x.w (zyI x.o (zyI x.p (zyI x.d (zyI x.l (zyI x.h (zyI x.b (zyR 5 aC (zyI (M q.ng) (zyI (i+1) (zyN q.ng (zyR q.ng (aN q.G) (bh (i.toNat+1) (a_ (i+1)) Q)))))))))))))))))))) (bh i.toNat q.ng (zyR i.toNat (ah K) (zyR 5 aC (bh i.toNat q.ng True))))):=U
def YY(q)(x)(K)(Q):(ko [kU,lA] [(5001,14,F5 q x K 0,Bc q.ng K)] 101 [.agg (aZ q),.agg (aB x)] Q)=(B (ar 3 q.nw (av q.C)&&ar 1 q.ng (aN q.G)) (B (fx {nw:=q.nw,C:=aF (av q.C),ng:=q.ng,G:=λj=>q.G j,a:=q.a,fl:=q.fl,nu:=q.nu,de:=q.de,top:=q.top}) (ak (!bE x) (aae.cells [j_ 5 2 aC] Access.ro=aae.cells [j_ 5 2 aC] Access.ro/\Q (F_ [AV.aD,u_ b_ 190])) (ay PP II false (az II 101 5001) 14 (F5 q x K 0) (Bc q.ng K)/\zyI x.t (zyI x.s (zyI x.v (zyI x.w (zyI x.o (zyI x.p (zyI x.d (zyI x.l (zyI x.h (zyI x.b (zyR 5 aC (zyI (M q.ng) (zyN q.ng (zyR q.ng (aN q.G) (B ((o_ (List.range.loop q.ng []) λi=>true)&&z (q.ng<=q.ng)) (aae.cells [j_ 5 2 aC] Access.ro=aae.cells [j_ 5 2 aC] Access.ro/\Q (F_ [j_ q.ng 1 (ah K),u_ b_ 0])))))))))))))))))))):=U
def bf(q:Query)(x:ao)(j:Nat):Int:=lF x (q.G j) 0
def gW(n)(W):an n (ah W) (ah W):=aaX λ_ _=>gw _ _ _
def gj{a b}(h:a<b):g_ a b=true:=by simp_all
def lR{a b}(h :¬ a<b):g_ a b=false:=by rw[Bool.eq_false_iff];simp_all
def iY(W)(j)(v)(a:v=W j):an (j+1) (λi=>bif g_ i j then ah W i else v_ 1 (w_ (0+(i-j)*1) [.int b_ v])) (ah W):=λk b σ=>by
 show bj.le σ (bif g_ k j then ah W k else v_ 1 (w_ (0+(k-j)*1) [.int b_ v])) (ah W k);by_cases h:k<j
 ·rw[gj h];exact gw _ _ _
 ·have:k=j:=by omega
  subst this;rw[lR h,show 0+(k-k)*1=0 by omega,a];exact⟨⟨rfl,rfl⟩,trivial⟩
def NR(q)(x)(i)(j:Nat)(a:i=(j:Int))(d:q.ng<=4)(e:j<q.ng)(Q)(hQ:Q):kr [kx] [] 101 5001 14 (F5 q x (bf q x)) (λ_=>Bc q.ng (bf q x)) (λi=>i+1) Q i:=by
 rw[F6];have b:a_ i=j:=O;have c:a_ (i+1)=j+1:=O;have f:M q.ng=(q.ng:Int):=rfl;rw[b,c];refine aaA (λ_=>?_) O;refine ZE _ _ Y (ZE _ _ Y (ZE _ _ (ai O O) ?_));have rows:=iY (bf q x) j (lF x (q.G j) 0) A
 repeat' (first|exact hQ|exact rows|exact bV|exact dJ _ _|refine aag A ?_|refine aan A ?_|refine And.intro ?_ ?_)
def SH(q)(x)(d:q.ng<=4):ay PP II false (az II 101 5001) 14 (F5 q x (bf q x) 0) (Bc q.ng (bf q x)):=by
 have key:=ay.of (ι:=Nat) fU [kx] (aX PP II []) 1000 (c:=az II 101 5001) (ir:=false) 14 (λj=>j<=q.ng) (λj=>F5 q x (bf q x) (j:Int)) (λ_=>Bc q.ng (bf q x)) (λj=>q.ng-j) (λj=>j+1) 0 A (r_ _) λj b=>?_
 ·exact key
 by_cases a:j<q.ng
 ·exact NR q x (j:Int) j A d a (j+1<=q.ng/\q.ng-(j+1)<q.ng-j/\(Bc q.ng (bf q x)).pick=(Bc q.ng (bf q x)).pick) Y
 ·have b:j=q.ng:=by have:j<=q.ng:=b;omega
  have done:∀(i:Int)(Q:Prop),i=(q.ng:Int)->kr [kx] [] 101 5001 14 (F5 q x (bf q x)) (λ_=>Bc q.ng (bf q x)) (λi=>i+1) Q i:=λi Q e=>by
   rw[F6];have g:M q.ng=(q.ng:Int):=rfl;have f:i.toNat=q.ng:=O;refine aaA O λ_=>?_
   rw[f];exact aan A ⟨gW _ _,bV,aan A trivial⟩
  exact done (j:Int) _ O
def YZ{q}(h:fx q=true):q.ng<=4:=by
 unfold fx at h
 grind
def Y0{q x}(b:ar 3 q.nw (av q.C)=true)(c:ar 1 q.ng (aN q.G)=true)(a:fx q=true)(hx:bE x=true):
  af PP II 101 [.agg (aZ q),.agg (aB x)] HO (.ret (.bM [.ae q.ng 1 (ah (bf q x)),.int b_ 0]) HO):=by
 refine FW (ks:=[kU,lA]) (T:=[(5001,14,F5 q x (bf q x) 0,Bc q.ng (bf q x))]) (λσ=>⟨⟨rfl,rfl,λ_ _=>gw _ _ _⟩,⟨rfl,rfl⟩,trivial⟩) ?_;rw[YY,b,c,show fx _=true from(lc q).trans a,hx];refine ZE _ _ A (ZE _ _ A ⟨SH q x (YZ a),?_⟩)
 repeat' (first|exact bV|exact dJ _ _|refine aag A ?_|refine aan A ?_|refine And.intro ?_ ?_|exact ZE _ _ zA ⟨rfl,rfl⟩)
section
open Go.Sort Go.Shelf Go.Proofs
def cJ(k:Nat)(W:Nat->Int):Bool:=D_ k 1000&&(n_ k).all λi=>z (0<=W i)&&z (W i<=4398046511104)
def eH{k W}(h:cJ k W=true):k<=1000/\∀i,i<k->0<=W i/\W i<=4398046511104:=by
 unfold cJ at h;simp_all
def NS{k W}(g:k<=1000000):ay PP II false (az II 331 1001) 37 (FO k W 0) (FQ k W):=by
 have key:=ay.of (ι:=Nat) fU [] (aX PP II []) 1000 (c:=az II 331 1001) (ir:=false) 37 (λi=>i<=k) (λi=>FO k W (i:Int)) (λ_=>FQ k W) (λi=>k-i) (λi=>i+1) 0 A (r_ _) λi hi=>?_
 ·exact key
 have hi:i<=k:=hi;by_cases a:i<k
 ·have go:∀(j:Int)(Q:Prop),j=(i:Int)->Q->kr [] [] 331 1001 37 (FO k W) (λ_=>FQ k W) (λi=>i+1) Q j:=λj Q d hQ=>by
   rw[Cb];have b:a_ j=i:=O;have e:a_ (j+1)=i+1:=O;have f:M k=(k:Int):=rfl;rw[b,e];have rows:=iY W i (W i) A;refine aaA (λ_=>?_) O;refine ZE _ _ Y (ZE _ _ Y (ZE _ _ (ai O O) ?_));exact aan A ⟨rows,rfl,rfl,aan A (aaY A (aaY A (aag A (aan A ⟨gW _ _,aag A hQ⟩))))⟩
  exact go (i:Int) _ A ⟨a,O,rfl⟩
 ·have hi:i=k:=by omega
  subst hi;have go:∀(j:Int)(Q:Prop),j=(i:Int)->kr [] [] 331 1001 37 (FO i W) (λ_=>FQ i W) (λi=>i+1) Q j:=λj Q d=>by
   rw[Cb];have f:M i=(i:Int):=rfl;have b:a_ j=a_ (M i):=O;refine aaA O λ_=>?_
   rw[b];exact aan A ⟨gW _ _,rfl,rfl,aan A (aaY A (aaY A trivial))⟩
  exact go (i:Int) _ A
def oq(nu de:List UInt8)(k:Nat):Int:=(if i_ (cz nu*M k+cz de-1) (cz de)>1 then i_ (cz nu*M k+cz de-1) (cz de)else 1)-1
def sS(nu de:List UInt8)(k:Nat)(W:Nat->Int):Int:=cn k W (oq nu de k).toNat
structure W4 (nu de:List UInt8):Prop where
 a1:jM nu=true
 a2:jM de=true
 l1:nu.length<=1000000
 l2:de.length<=1000000
 n0:0<=cz nu
 nd:cz nu<=cz de
 d1:1<=cz de
 d10:cz de<=10
def W5{nu de}(h:qq nu de=true):W4 nu de:=by
 unfold qq at h;rw[List.any_eq_true]at h;obtain⟨k,a,h⟩:=h;simp only[ba,bl]at h;obtain⟨rfl,rfl⟩:=h;have a:=List.mem_range.1 a
 match k,a with
 |0,_=>exact⟨rfl,rfl,zC,zC,zC,zC,zC,zC⟩
 |1,_=>exact⟨rfl,rfl,zC,zC,zC,zC,zC,zC⟩
 |2,_=>exact⟨rfl,rfl,zC,zC,zC,zC,zC,zC⟩
 |3,_=>exact⟨rfl,rfl,zC,zC,zC,zC,zC,zC⟩
 |4,_=>exact⟨rfl,rfl,zC,zC,zC,zC,zC,zC⟩
 |5,_=>exact⟨rfl,rfl,zC,zC,zC,zC,zC,zC⟩
 |6,_=>exact⟨rfl,rfl,zC,zC,zC,zC,zC,zC⟩
 |7,_=>exact⟨rfl,rfl,zC,zC,zC,zC,zC,zC⟩
 |8,_=>exact⟨rfl,rfl,zC,zC,zC,zC,zC,zC⟩
 |9,_=>exact⟨rfl,rfl,zC,zC,zC,zC,zC,zC⟩
 |10,_=>exact⟨rfl,rfl,zC,zC,zC,zC,zC,zC⟩
 |k+11,h=>omega
def tz{k W i}(hi:i<k):∃j,j<k/\cn k W i=W j:=by
 have a:=p5 (ltOf Lib.compareInt) k W;have:cn k W i∈iz (ltOf Lib.compareInt) k W:=by unfold cn;rw[List.getD_eq_getElem?_getD,oa O];exact List.getElem_mem _
 unfold iz at this;rw[List.mem_mergeSort]at this
 grind
def Cf{nu de}(h:W4 nu de){k}(c:0<k)(f:k<=1000):0<=oq nu de k/\oq nu de k<k/\0<=cz nu*M k/\cz nu*M k<=10000/\0<=i_ (cz nu*M k+cz de-1) (cz de)/\i_ (cz nu*M k+cz de-1) (cz de)<=k:=by
 obtain⟨_,_,_,_,n0,nd,d1,d10⟩:=h;unfold oq;have a:(0:Int)<=M k:=s_ k;have b:M k=(k:Int):=rfl;generalize cz nu=n at*;generalize cz de=d at*;have g:0<=n*M k:=Int.mul_nonneg n0 a;have i:n*M k<=d*M k:=by simp_all
 have j:d*M k<=10*M k:=by simp_all
 have e:i_ (n*M k+d-1) d=(n*M k+d-1)/d:=Y;rw[e];have l:0<=(n*M k+d-1)/d:=Int.ediv_nonneg O O;have m:(n*M k+d-1)/d<(k:Int)+1:=by refine Int.ediv_lt_of_lt_mul O ?_;rw[Int.add_mul,Int.mul_comm (k:Int) d];have o:d*M k=d*(k:Int):=rfl;omega
 omega
def VT{nw ng k:Nat}{f g:Nat->List AV}{W:Nat->Int}{a fl top:Int}{nu de:List UInt8}(e:cJ k W=true)(d:0<k)(h3:qq nu de=true):
  af PP II 324 [uF nw ng f g a fl top nu de,.ae k 1 (ah W)] HP (.ret (lQ (sS nu de k W).toNat 1) HP):=by
 have b:=W5 h3;obtain⟨h,l⟩:=eH e;obtain⟨m,n,s,t,t1,t2⟩:=Cf b d h;obtain⟨j,o,p⟩:=tz (W:=W) (i:=(oq nu de k).toNat) (O:(oq nu de k).toNat<k);have c:=l j o;rw[<-p]at c;refine lP (T:=[(1001,37,FO k W 0,FQ k W)]) ((VG nw ng k f g W a fl top nu de _ A A).mpr ?_);obtain⟨a1,a2,l1,l2,n0,nd,d1,d10⟩:=b;have lp:=NS (W:=W) (O:k<=1000000);have q:a_ (M k)=k:=rfl;rw[q];have c0:(o_ (List.range.loop k []) λi=>true)=true:=List.all_eq_true.2 λ_ _=>rfl
 refine ZE _ _ (by rw[a1,il l1];rfl) (ZE _ _ (by rw[a2,il l2];rfl) ⟨lp,rfl,rfl,aaY A (aaY A (aan A ⟨gW _ _,aag A ?_⟩))⟩);refine ZE _ _ (by rw[c0,qy,gj d,gj (O:k<4611686018427387904)];rfl) (ZE _ _ (bK A) (ZE _ _ (bK A) ?_));refine ZE _ _ (ai O O) (ZE _ _ (ai O O) (ZE _ _ (ai O O) (ZE _ _ ?_ ?_)))
 ·rw[ai O O,nJ O];rfl
 have eq:(if i_ (cz nu*M k+cz de-1) (cz de)>1 then i_ (cz nu*M k+cz de-1) (cz de)else 1)-1=oq nu de k:=rfl;rw[eq];have r:cn k (λi=>W i) (oq nu de k).toNat=sS nu de k W:=rfl;rw[r];have c:0<=sS nu de k W/\sS nu de k W<=4398046511104:=c;refine ZE _ _ (ai O O) (ZE _ _ ?_ (ZE _ _ (bK O) (ZE _ _ (DI c.1 (ai O O)) (λ_=>⟨rfl,rfl,trivial⟩))));simp only[ba,bl];exact⟨m,n⟩
def W6:ax PP II:=ax.oR 324
 (λX args b=>match args with
  |[.agg [.ae _ 3 _,.ae _ 1 _,.int b_ _,.int b_ _,.str nu,.str de,.int b_ _],.ae k 1 r]=>X.ag (bN k r&&cJ k (a8 r)&&g_ 0 k&&qq nu de) (b (lQ (sS nu de k (a8 r)).toNat 1))
  |_=>X.fail)
 λX sem hX args b h=>by
  split at h
  ·obtain⟨a,c⟩:=hX.ag _ _ h;simp only[ba,Nat.blt_eq]at a;exact⟨_,c,λ_=>rfl,λ_=>rfl,af.uE (VT a.1.1.2 a.1.2 a.2) (gJ a.1.1.1)⟩
  ·exact zR
def Y1(q)(k)(W)(Q){b}(e:b=(a_ (eQ (λi=>W i) k))){c}(f:c=(o_ (List.range.loop k []) λi=>true)){d}(g:d=(sS q.nu q.de k λi=>W i)):(kq [WZ,W1,W2,W3,W6] [] 147 [.agg (aZ q),.ae k 1 (ah W)] Q)=(ak (z (M k=0)) (Q (p_ [h_ [48],h_ [49]])) (ak (z (q.a=1)) (B (c&&aJ b_ (M k)) (Q (p_ [h_ (ck (k/c_ k 1)),h_ (ck (1/c_ k 1))]))) (ak (z (q.a=2)) (B (jk k (ah W)&&z (0<=eQ (λi=>W i) k)) (Q (p_ [h_ (ck (a_ (eQ (λi=>W i) k)/c_ b 1)),h_ (ck (1/c_ b 1))]))) (ak (z (q.a=3)) (B (jk k (ah W)&&z (0<=eQ (λi=>W i) k)&&g_ 0 k&&aJ b_ (M k)) (Q (p_ [h_ (ck (a_ (eQ (λi=>W i) k)/c_ b k)),h_ (ck (k/c_ b k))]))) (ak (z (q.a=4)) (B (c&&D_ k 1000000000000&&g_ 0 k&&z (0<=dH (λi=>W i) k)&&aJ b_ (dH (λi=>W i) k)) (Q (p_ [h_ (ck (a_ (dH (λi=>W i) k)/c_ (a_ (dH (λi=>W i) k)) 1)),h_ (ck (1/c_ (a_ (dH (λi=>W i) k)) 1))]))) (ak (z (q.a=5)) (B ((c&&cJ k λi=>W i)&&g_ 0 k&&qq q.nu q.de) (Q (p_ [h_ (ck (d.toNat/c_ d.toNat 1)),h_ (ck (1/c_ d.toNat 1))]))) False)))))):=by subst_vars;kernel_rfl
end
section
open Go.Sort Go.Shelf Go.Proofs
def z7(q:Query)(k:Nat)(W:Nat->Int):Nat×Nat :=
 if k=0 then(0,1)else if q.a=1 then(k,1)else if q.a=2 then((eQ W k).toNat,1)else if q.a=3 then((eQ W k).toNat,k)else if q.a=4 then((dH W k).toNat,1)else((sS q.nu q.de k W).toNat,1)
def fY(q:Query)(k:Nat)(W:Nat->Int):List UInt8:=ck ((z7 q k W).1/c_ (z7 q k W).1 (z7 q k W).2)
def fZ(q:Query)(k:Nat)(W:Nat->Int):List UInt8:=ck ((z7 q k W).2/c_ (z7 q k W).1 (z7 q k W).2)
def VU{W k}(h:∀i,i<k->0<=W i/\W i<=4398046511104):0<=eQ W k/\eQ W k<=4398046511104*k:=by
 induction k with
 |zero=>exact⟨E_ _,E_ _⟩
 |succ k a=>
  obtain⟨b,c⟩:=a λi hi=>h i O
  obtain⟨h3,h4⟩:=h k O;show 0<=eQ W k+W k/\eQ W k+W k<=_;omega
def vO(W):∀k,0<k->∃j,j<k/\dH W k=W j
 |1,_=>⟨0,O,by show(if W 0>W 0 then W 0 else W 0)=_;split<;>rfl⟩
 |k+2,_=>by
  obtain⟨j,a,e⟩:=vO W (k+1) O;show ∃j,j<k+2/\(if W (k+1)>dH W (k+1)then W (k+1)else dH W (k+1))=W j;split
  ·exact⟨k+1,O,rfl⟩
  ·exact⟨j,O,e⟩
def wI{k W}(h:cJ k W=true):jk k (ah W)=true/\0<=eQ W k/\eQ W k<=4398046511104000:=by
 obtain⟨d,b⟩:=eH h;have a:=λ(i:Nat) (hi:i<=k)=>VU (W:=W) (k:=i) λj e=>b j O
 obtain⟨c,f⟩:=a k (dP _);refine⟨?_,c,O⟩;unfold jk;rw[dL,il O,C_,C_,t_];intro i hi;have hi:=List.mem_range.1 hi;obtain⟨c1,c2⟩:=a i O;show aJ b_ (eQ W i)=true;exact ai O O
def VV{q k W}(h:cJ k W=true)(a:fx q=true):(z7 q k W).1<9223372036854775808/\(z7 q k W).2<9223372036854775808/\0<(z7 q k W).2:=by
 obtain⟨g,e⟩:=eH h;obtain⟨_,m,n⟩:=wI h;unfold z7;by_cases f:k=0
 ·rw[if_pos f];decide
 rw[if_neg f];obtain⟨j,b,c⟩:=vO W k O;have l:=e j b;rw[<-c]at l;split
 ·exact⟨by show k<_;omega,by show 1<_;omega,l_⟩
 split
 ·exact⟨by show(eQ W k).toNat<_;omega,by show 1<_;omega,l_⟩
 split
 ·exact⟨by show(eQ W k).toNat<_;omega,by show k<_;omega,by show 0<k;omega⟩
 split
 ·exact⟨by show(dH W k).toNat<_;omega,by show 1<_;omega,l_⟩
 ·rename_i n1 o p r;refine⟨?_,by show 1<_;omega,l_⟩;have ht:qq q.nu q.de=true:=by
   unfold fx Nz at a;simp only[ba,m_,bl]at a;rcases a.2 with(h|h)|h
   ·exact absurd h.1.1.1 n1
   ·exact h.2
   ·omega
  obtain⟨s,t,_⟩:=Cf (W5 ht) (O:0<k) g;obtain⟨j,b,c⟩:=tz (W:=W) (i:=(oq q.nu q.de k).toNat) (O:(oq q.nu q.de k).toNat<k);have d:=e j b;rw[<-c]at d;have d:0<=sS q.nu q.de k W/\sS q.nu q.de k W<=4398046511104:=d;show(sS q.nu q.de k W).toNat<_;omega
def NT{n d:Nat}(c:n<9223372036854775808)(e:d<9223372036854775808)(a:0<d):bX (ck (n/c_ n d)) (ck (d/c_ n d))=true:=by
 have b:0<c_ n d:=Nat.gcd_pos_of_pos_right n a;have t1:=eE (A_ n (c_ n d)) (kL c);have t2:=eE (A_ d (c_ n d)) (kL e);unfold bX;rw[dw t1,dw t2,cP,cP,gj (Nat.div_pos (Nat.le_of_dvd a (x_ n d)) b),Nat.gcd_div (Nat.gcd_dvd_left n d) (x_ n d),Nat.div_self b];rfl
def cW{q k W}(h:cJ k W=true)(a:fx q=true):bX (fY q k W) (fZ q k W)=true:=by
 obtain⟨b,c,h3⟩:=VV h a;exact NT b c h3
def SI{q k W}(h:cJ k W=true)(l:fx q=true):af PP II 147 [.agg (aZ q),.ae k 1 (ah W)] HR (.ret (.agg [.str (fY q k W),.str (fZ q k W)]) HR):=by
 obtain⟨D,s⟩:=eH h;obtain⟨s0,n,E⟩:=wI h;refine wH (ks:=[WZ,W1,W2,W3,W6]) (T:=[]) ?_;rw[Y1 _ _ _ _ A A A];have c0:(o_ (List.range.loop k []) λi=>true)=true:=List.all_eq_true.2 λ_ _=>rfl
 have f:∀(a b c d:List UInt8),a=c->b=d->∀σ,k_ σ (.agg [.str a,.str b]) (.agg [.str c,.str d]):=λa b c d t u σ=>⟨t,u,trivial⟩
 unfold fY fZ z7;refine aaA (λg=>?_) λg=>?_
 ·have g:k=0:=Int.ofNat_inj.1 g;rw[if_pos g];refine f _ _ _ _ ?_ ?_
  ·show _=ck (0/c_ 0 1);exact mZ.symm
  ·show _=ck (1/c_ 0 1);exact KP.symm
 have g:k≠0:=λe=>g (by rw[e];rfl)
 rw[if_neg g];have kp:0<k:=Nat.pos_of_ne_zero g;obtain⟨j,v,w⟩:=vO W k kp;have o:=s j v;rw[<-w]at o;have x:aJ b_ (dH W k)=true:=ai O O;have p:aJ b_ (M k)=true:=ai (Int.le_trans zC (s_ k)) (by show(k:Int)<=_;omega);refine aaA (λa1=>?_) λn1=>aaA (λa2=>?_) λm=>aaA (λy=>?_) λr=>aaA (λa4=>?_) λC=>aaA (λF=>?_) λG=>?_
 ·rw[if_pos a1];exact ZE _ _ (by rw[c0,p];rfl) (f _ _ _ _ A A)
 ·rw[if_neg n1,if_pos a2];exact ZE _ _ (by rw[s0,bK (show 0<=eQ (λi=>W i) k from n)];rfl) (f _ _ _ _ A A)
 ·rw[if_neg n1,if_neg m,if_pos y];exact ZE _ _ (by rw[s0,bK (show 0<=eQ (λi=>W i) k from n),gj kp,p];rfl) (f _ _ _ _ A A)
 ·rw[if_neg n1,if_neg m,if_neg r,if_pos a4];exact ZE _ _ (by rw[c0,il O,gj kp,bK (show 0<=dH (λi=>W i) k from o.1),show aJ b_ (dH (λi=>W i) k)=true from x];rfl) (f _ _ _ _ A A)
 ·rw[if_neg n1,if_neg m,if_neg r,if_neg C];have ht:qq q.nu q.de=true:=by
   unfold fx Nz at l;simp only[ba,m_,bl]at l;rcases l.2 with(h|h)|h
   ·exact absurd h.1.1.1 n1
   ·exact h.2
   ·omega
  exact ZE _ _ (by rw[c0,show cJ k (λi=>W i)=true from h,gj kp,ht];rfl) (f _ _ _ _ A A)
 ·unfold fx Nz at l;simp only[ba,m_,bl]at l;omega
def gP:ax PP II:=ax.I8 147
 (λX args c=>match args with
  |[.agg cs,.ae k 1 r]=>match toQ cs with
   |some q=>X.ag (jw cs&&fx q&&bN k r&&cJ k (a8 r)) (c (.agg [.str (fY q k (a8 r)),.str (fZ q k (a8 r))]))
   |none=>X.fail
  |[.agg cs,.aD]=>match toQ cs with
   |some q=>X.ag (jw cs&&fx q) (c (.agg [.str (fY q 0 λ_=>0),.str (fZ q 0 λ_=>0)]))
   |none=>X.fail
  |_=>X.fail)
 λX sem hX args c h=>by
  split at h
  ·split at h
   ·rename_i q b;obtain⟨a,d⟩:=hX.ag _ _ h;simp only[ba]at a;refine⟨_,d,λ_=>rfl,λσ=>?_,af.iM (SI a.2 a.1.1.2) (toQ_le b a.1.1.1) (gJ a.1.2)⟩;show [G_ σ (.agg _),_]=_;rw[uJ b];rfl
   ·exact zR
  ·split at h
   ·rename_i q b;obtain⟨a,d⟩:=hX.ag _ _ h;simp only[ba]at a;refine⟨_,d,λ_=>rfl,λσ=>?_,af.iM (SI (k:=0) (W:=λ_=>0) A a.2) (toQ_le b a.1) (show(0:Nat)=0 from rfl)⟩;show [G_ σ (.agg _),_]=_;rw[uJ b];rfl
   ·exact zR
  ·exact zR
end
end
end Go.Sx
