/- The proof of a statement of the seat, part 30. -/
import Derived.Test.YtoijalagmmgkbaaGreatDoorX26
import Derived.Test.YtoijalagmmgkbaaGreatDoorX29
import Derived.Test.YtoijalagmmgkbaaGreatDoorX11
import Derived.Test.YtoijalagmmgkbaaGreatDoorX28
set_option linter.all false
set_option linter.defProp false
set_option maxRecDepth 1000000
namespace Go.Sx
open Go
open Int renaming ofNat->B,toNat->a_,tdiv->h_,le_refl->B_
open Decidable renaming decide->z
open Go.IntKind renaming i64->b_
open Nat renaming gcd->c_,blt->f_,zero_le->o_,gcd_dvd_right->t_,div_le_self->x_,ble->A_
open Tr renaming ofList->d_
open Bool renaming not_eq_false'->e_,or_eq_true->w_,true_and->z_
open AV renaming str->g_,az->i_,le->j_,agg->m_,int->q_,bool->u_,bK->C_,bD->D_
open List renaming range->k_,all->l_,all_eq_true->p_,take->r_,drop->s_
noncomputable section
def HR:AH:={n:=14,t:=d_ [(0,.cells [.az 5 2 aA] .ro),(1,.cells [.str [48],.str [49]] .ro),(3,.cells [.map (some 13)] .ro),(6,.cells dz (.ex 20)),(13,.map lS)]}
def Ff(b:Zv):Bool:=match b with
 | .cells [.str [48],.str [49]] .ro=>true
 |_=>false
def Nq(b:Zv):Bool:=match b with
 | .cells [.map (some 13)] .ro=>true
 |_=>false
def AP(b:Zv):Bool:=match b with
 | .map [(.any,.any),(.int b_ 1,.agg [.fn 335 [] []]),(.int b_ 2,.agg [.fn 337 [] []]),(.int b_ 3,.agg [.fn 339 [] []]),(.int b_ 4,.agg [.fn 340 [] []]),(.int b_ 5,.agg [.fn 341 [] []])]=>true
 |_=>false
def Jk{b}(h:Ff b=true):b= .cells [.str [48],.str [49]] .ro:=by
 unfold Ff at h
 grind
def Nr{b}(h:Nq b=true):b= .cells [.map (some 13)] .ro:=by
 unfold Nq at h
 grind
def Fg{b}(h:AP b=true):b= .map lS:=by
 unfold AP at h
 split at h<;>first|rfl|cases h
def Ns(H:AH):Bool:=A_ 14 H.n&&rM (H.get 0)&&Ff (H.get 1)&&Nq (H.get 3)&&LS H&&AP (H.get 13)
def wI(i):HR.get i=if i=0 then .cells [.az 5 2 aA] .ro else if i=1 then .cells [.str [48],.str [49]] .ro else if i=3 then .cells [.map (some 13)] .ro else if i=6 then .cells dz (.ex 20)else if i=13 then .map lS else .dead:=by
 show AH.get {n:=14,t:=d_ [(0,_),(1,_),(3,_),(6,_),(13,_)]} i=_
 simp only[AH.get,d_,Tr.bH,Tr.qV]
 grind
def af.WW{P I f args a H0 H}(h:af P I f args H0 (.ret a H0))(hG:I.G<=H0.n)(y:H0.n<=H.n)(b:∀i,H0.n<=i->H0.get i= .dead)
  (o:∀i,H0.get i≠ .dead->H.get i=H0.get i/\∀σ,(∀j,j<H0.n->σ j=j)->(H0.get i).bD σ=H0.get i) (d:∀σ,bt.bD σ args=args) (ha:∀σ,a.bD σ=a):
  af P I f args H (.ret a H):=by
 intro c ρ w vs q u t
 let σ:Nat->Nat:=λl=>if l<H0.n then l else H.n+(l-H0.n)
 have m:∀i,i<H0.n->σ i=i:=λi hi=>Y
 have s:∀i,H0.get i≠ .dead->i<H0.n:=Y
 have v:Sub I.G σ H0 H :=
  {lt:=λl hl=>by rw[m l hl];omega
   ge:=λl hl=>Y
   same:=Y
   inj:=Y
   fp:=λg C=>Y
   low:=b}
 have ht:Eb σ H0 (CO.ret a H0).heap H H :=
  {n:=by show H.n=H.n+(H0.n-H0.n);omega
   old:=λl hl=>by
    show H.get (σ l)=(H0.get l).bD σ
    grind
   new:=λl hl=>by
    show H.get (σ l)=(H0.get l).bD σ
    rw[b l hl]
    simp only[σ,if_neg (Nat.not_lt.2 hl)]
    rw[t.low _ O]
    rfl
   rest:=λ_ _ _=>rfl}
 have:=h.lift v ht
 rw[d]at this
 have e:(CO.ret a H0).iT σ H= .ret a H:=by
  show CO.ret (a.bD σ) H=_
  rw[ha]
 rw[e]at this
 exact this c ρ w vs q u t
def af.WX{f:FuncId}{args:List AV}{a:AV}{H:AH}(h:af PP II f args (H.set 0 (.cells [.az 5 2 aA] .ro)) (.ret a (H.set 0 (.cells [.az 5 2 aA] .ro))))(m:rM (H.get 0)=true):af PP II f args H (.ret a H):=by
 obtain⟨g,o,C⟩:=wH m
 have key:∀(b D:Zv),(∃x y,b= .cells [.az 5 2 x] .ro/\D= .cells [.az 5 2 y] .ro/\(∀i,i<5->x i=aA i)/\∀i,i<5->y i=aA i)->∀c ρ w (H H':AH),H.get 0=b->H'.n=H.n->(∀l,H'.get l=if l=0 then D else H.get l)->Rel c ρ H w->Rel c ρ H' w:=by
  rintro _ _ ⟨x,y,rfl,rfl,hx,F⟩ c ρ w H H' m G o j
  refine j.same G (λl hl=>?_) (λl=>?_) λl=>?_
  ·rw[o]
   by_cases e:l=0
   ·subst e;rw[if_pos A];rw[m]at hl;exact Ul hx F hl
   grind
  ·rw[o]
   by_cases e:l=0
   ·subst e;rw[if_pos A,m];rfl
   ·rw[if_neg e]
  ·grind
 have q:∀c ρ w,Rel c ρ H w->Rel c ρ (H.set 0 (.cells [.az 5 2 aA] .ro)) w:=λc ρ w j=>
  key _ _ ⟨_,_,rfl,rfl,C,λ_ _=>rfl⟩ c ρ w H _ o A (λl=>AH.bH _ _ _ _) j
 have back:∀c ρ w,Rel c ρ (H.set 0 (.cells [.az 5 2 aA] .ro)) w->Rel c ρ H w:=λc ρ w j=>
  key (.cells [.az 5 2 aA] .ro) (.cells [.az 5 2 g] .ro) ⟨_,_,rfl,rfl,λ_ _=>rfl,C⟩ c ρ w _ _ (AH.get_set_same _ _ _) A (λl=>by
   by_cases e:l=0
   grind
   ·rw[if_neg e,AH.eu _ _ (λd=>e d.symm)]) j
 intro c ρ w vs hG I j
 have post:∀e w',(CO.ret a (H.set 0 (.cells [.az 5 2 aA] .ro))).post c ρ e w'->(CO.ret a H).post c ρ e w':=by
  intro e w' s
  cases e with
  |returned v=>
   obtain⟨ρ',hx,t,u⟩:=s
   exact⟨ρ',hx,back _ _ _ t,u⟩
  |panicked J=>exact s.elim
  |outgrown=>exact s.elim
 rcases h c ρ w vs hG I (q _ _ _ j)with⟨h1,E⟩|⟨v,w',h1,E⟩
 ·exact .inl ⟨h1,E.mono post⟩
 grind
def CD{H}(h:Ns H=true):14<=H.n/\rM (H.get 0)=true/\H.get 1= .cells [.str [48],.str [49]] .ro/\H.get 3= .cells [.map (some 13)] .ro/\H.get 6= .cells dz (.ex 20)/\H.get 13= .map lS:=by
 unfold Ns LS at h
 simp only[bf]at h
 exact⟨ZD,h.1.1.1.1.2,Jk h.1.1.1.2,Nr h.1.1.2,sY h.1.2,Fg h.2⟩
def af.s9{f args a H}(h:af PP II f args HR (.ret a HR))(t:Ns H=true)(c:∀σ,bt.bD σ args=args)(ha:∀σ,a.bD σ=a):af PP II f args H (.ret a H):=by
 obtain⟨u,v,w,y,C,j⟩:=CD t
 refine af.WX (af.WW (H0:=HR) h zC zI (λi hi=>?_) (λi d=>?_) c ha) v
 ·have hi:14<=i:=hi
  rw[wI,if_neg O,if_neg O,if_neg O,if_neg O,if_neg O]
 ·rw[wI]at d⊢
  by_cases l:i=0
  ·subst l;rw[AH.get_set_same];exact⟨rfl,λ_ _=>rfl⟩
  ·rw[AH.eu _ _ (λb=>l b.symm)]
   rw[if_neg l]at d⊢
   by_cases o:i=1
   ·subst o;exact⟨w,λ_ _=>rfl⟩
   ·rw[if_neg o]at d⊢
    by_cases q:i=3
    ·subst q
     refine⟨y,λσ m=>?_⟩
     show Zv.cells [.map (some (σ 13))] .ro=_
     rw[m 13 zC];rfl
    ·rw[if_neg q]at d⊢
     by_cases s:i=6
     ·subst s
      refine⟨C,λσ _=>?_⟩
      rfl
     ·rw[if_neg s]at d⊢
      by_cases Jh:i=13
      ·subst Jh;exact⟨j,λ_ _=>rfl⟩
      grind
def aC.s9(f:FuncId)(spec:{R:Type}->RI R->List AV->(AV->R)->R)
  (ok:∀{R:Type}(X:RI R)(sem:R->Prop),X.Ok sem->∀args c,sem (spec X args c)->∃a,sem (c a)/\(∀σ,a.bD σ=a)/\(∀σ,bt.bD σ args=args)/\af PP II f args HR (.ret a HR)):aC PP II where
 f:=f
 spec X args H c _:=jK X 100000 args H λb H'=>X.ak (Ns H') (spec X b λa=>c a H')
 ok X sem hX args H c kp h:=by
  obtain⟨b,H',d,i⟩:=gC hX _ _ _ _ h
  obtain⟨j,d⟩:=hX.ak _ _ d
  obtain⟨a,k1,k2,l,m⟩:=ok X sem hX _ _ d
  exact⟨.ret a H',k1,(m.s9 j l k2).nI i⟩
abbrev kq(ks:List (aC PP II))(T:lI)(f:FuncId)(args:List AV)(Q:AV->Prop):Prop :=
 jE ks (mG PP II T) 1000 f args HR (λa H=>qC RI.jY 100000 a H λa' H2=>aa (Ns H2) (Q a')) (λ_ _=>False)
def qh{ks T f args a'}(h:kq ks T f args (λa=> ∀σ,j_ σ a a')):af PP II f args HR (.ret a' HR):=by
 obtain⟨o,e,k⟩:=fJ iw ks (bm PP II T) 1000 f args HR _ _ h
 cases o with
 |ret a H1=>
  obtain⟨x,H2,k1,k2⟩:=lm RI.dJ _ _ _ _ e
  obtain⟨m,k1⟩:=Zk k1
  have k1:∀σ,j_ σ x a':=k1
  obtain⟨d,p,q,r,s,Jh⟩:=CD m
  obtain⟨g,t,u⟩:=wH p
  refine(k.vW k2).le (ky.of [] (im.of (by rfl) A A A (kV d) (gS.2 λl hl=>?_)) (k1 _))
  have hl:l<14:=hl
  have b:∀i,i<14->sig HR.n [] H2.n i=i:=λi hi=>by
   show sig 14 [] H2.n i=i
   unfold sig
   rw[show f_ i 14=true from ZD];rfl
  rw[wI]
  by_cases c0:l=0
  ·subst c0
   rw[if_pos A]
   show if sig HR.n [] H2.n 0<H2.n then Zv.le (sig HR.n [] H2.n) (H2.get (sig HR.n [] H2.n 0)) (Zv.cells [.az 5 2 aA] .ro)else _
   rw[b 0 zC,if_pos O,t]
   exact⟨⟨⟨rfl,rfl,λi hi=>by rw[u i hi];exact aZ i hi _⟩,trivial⟩,trivial⟩
  ·rw[if_neg c0]
   by_cases c1:l=1
   ·subst c1
    rw[if_pos A]
    show if sig HR.n [] H2.n 1<H2.n then Zv.le (sig HR.n [] H2.n) (H2.get (sig HR.n [] H2.n 1)) _ else _
    rw[b 1 zC,if_pos O,q]
    exact⟨⟨rfl,rfl,trivial⟩,trivial⟩
   ·rw[if_neg c1]
    by_cases c3:l=3
    ·subst c3
     rw[if_pos A]
     show if sig HR.n [] H2.n 3<H2.n then Zv.le (sig HR.n [] H2.n) (H2.get (sig HR.n [] H2.n 3)) _ else _
     rw[b 3 zC,if_pos O,r]
     exact⟨⟨by rfl,trivial⟩,trivial⟩
    ·rw[if_neg c3]
     by_cases j:l=6
     ·subst j
      rw[if_pos A]
      show if sig HR.n [] H2.n 6<H2.n then Zv.le (sig HR.n [] H2.n) (H2.get (sig HR.n [] H2.n 6)) _ else _
      rw[b 6 zC,if_pos O,s]
      exact⟨pz _,rfl⟩
     ·rw[if_neg j]
      by_cases c:l=13
      ·subst c
       rw[if_pos A]
       show if sig HR.n [] H2.n 13<H2.n then Zv.le (sig HR.n [] H2.n) (H2.get (sig HR.n [] H2.n 13)) _ else _
       rw[b 13 zC,if_pos O,Jh]
       refine⟨rfl,?_,?_⟩
       ·simp[gK,lS,bt.le,j_]
       ·simp[gK,lS,bt.le,j_]
      ·rw[if_neg c];trivial
 |qt a H1=>exact e.elim
def CE(q:Query)(x:ay)(d:Int)(i:Int):St:={t:=d_ [(0,.az q.nw 3 (au q.C)),(1,.fn 152 [] [.ptr 13 0 0 0,.ptr 14 0 0 0]),(7,.int b_ (B q.nw)),(8,.int b_ i)],nt:=19,H:={n:=15,t:=d_ [(0,.cells [.az 5 2 aA] .ro),(13,.cells (aF x) (.ty 48)),(14,.cells [.int b_ d] (.ty 3))]},df:=[]}
def WY:AH:={n:=15,t:=d_ [(0,.cells [.az 5 2 aA] .ro)]}
def xT(b:Bool)(a:Int):GE:=.cond b (.one (.r {t:=d_ [(4,.int b_ a)],nt:=19,H:=WY,df:=[]})) (.one (.x 0 {t:=.e,nt:=19,H:=WY,df:=[]}))
def wJ(q)(x)(d)(b)(g)(i)(Q){e}(j:e=(aa (aN b_ (i+1)) (zyI d (zyI x.t (zyI x.s (zyI x.v (zyI x.w (zyI x.o (zyI x.p (zyI x.d (zyI x.l (zyI x.h (zyI x.b (zyR 5 aA (zyI (B q.nw) (zyN q.nw (zyR q.nw (au q.C) (zyI (i+1) Q)))))))))))))))))){a}(k:a=(z (q.C i.toNat 1=q.C i.toNat 1))){c}(m:c=(z (q.C i.toNat 2=q.C i.toNat 2))){f}(n:f=(ah b (zyR 5 aA (aH i g True)) False)):(kr [jr] [] 129 2001 15 (CE q x d) (λ_=>xT b g) (λi=>i+1) Q i)=(ah (z (i<B q.nw)) (aa (z (0<=i)&&z (i<B q.nw)) (ah (z (q.C i.toNat 1=0)) (aa a (aa c False)) (ah (z (q.C i.toNat 1=1)) (aa a (aa c (ah (!decide (gJ x (q.C i.toNat 0) d=q.C i.toNat 2)) f e))) (ah (z (q.C i.toNat 1=2)) (aa a (aa c (ah (!!decide (gJ x (q.C i.toNat 0) d=q.C i.toNat 2)) f e))) (ah (z (q.C i.toNat 1=3)) (aa a (aa c (ah (!decide (gJ x (q.C i.toNat 0) d<q.C i.toNat 2)) f e))) (ah (z (q.C i.toNat 1=4)) (aa a (aa c (ah (!decide (gJ x (q.C i.toNat 0) d>=q.C i.toNat 2)) f e))) False)))))) (ah b False (zyR 5 aA True))):=by subst_vars;kernel_rfl
def Nt(q)(x)(d)(b)(a)(Q):(ko [jr] [(2001,15,CE q x d 0,xT b a)] 103 [.agg (aY q),.agg (aF x),.int b_ d] Q)=(Zu PP II false (aD II 129 2001) 15 (CE q x d 0) (xT b a)/\zyI d (zyI x.t (zyI x.s (zyI x.v (zyI x.w (zyI x.o (zyI x.p (zyI x.d (zyI x.l (zyI x.h (zyI x.b (zyR 5 aA (zyI (B q.nw) (zyN q.nw (zyR q.nw (au q.C) (ah b (Zv.cells [i_ 5 2 aA] Access.ro=Zv.cells [i_ 5 2 aA] Access.ro/\Q (u_ !decide (a>=0))) (Zv.cells [i_ 5 2 aA] Access.ro=Zv.cells [i_ 5 2 aA] Access.ro/\Q (u_ true)))))))))))))))))):=U
def gG(q:Query)(x:ay)(d:Int)(j:Nat):Bool:=Nn (q.C j 1) (gJ x (q.C j 0) d) (q.C j 2)
def dV(q:Query)(x:ay)(d:Int):Bool:=(k_ q.nw).all (gG q x d)
def xU(q:Query)(x:ay)(d:Int):Int:=match(k_ q.nw).find? λj=>!gG q x d j with|some j=>(j:Int)|none=>0
def Fh{p n j}(a:j<n)(b:∀k,k<j->p k=false)(c:p j=true):(k_ n).find? p=Option.some j:=by
 simp_all
def CF(q)(x)(d)(b)(a)(i)(j:Nat)(n:i=(j:Int))(t:q.nw<=6)(u:j<q.nw)(w:1<=q.C j 1/\q.C j 1<=4)(Q)
  (hQ:gG q x d j=true->Q) (f:gG q x d j=false->b=true/\i=a):kr [jr] [] 129 2001 15 (CE q x d) (λ_=>xT b a) (λi=>i+1) Q i:=by
 rw[wJ _ _ _ _ _ _ _ A A A A]
 have r:a_ i=j:=O
 have y:B q.nw=(q.nw:Int):=rfl
 rw[r]
 unfold gG Nn at hQ f
 generalize q.C j 1=o at*
 generalize q.C j 2=N at*
 generalize gJ x (q.C j 0) d=v at*
 have c:aN b_ (i+1)=true:=aq O O
 have s:(z (0<=i)&&z (i<B q.nw))=true:=by simp only[bf,bn];omega
 have e:∀(p:Bool),(p=true->z ((o=1/\v=N)∨(o=2/\v≠N)∨(o=3/\v<N)∨(o=4/\N<=v))=false)->p=true->ah b (an 5 aA aA/\aH i a True) False:=λp g k=>by
  obtain⟨l,m⟩:=f (g k)
  rw[l]
  exact⟨aZ,Zf m trivial⟩
 refine Zg (λ_=>?_) O
 refine cC _ _ s ?_
 refine Zg O λ_=>?_
 refine Zg (λg=>?_) λg1=>Zg (λk=>?_) λg2=>Zg (λl=>?_) λg3=>Zg (λm=>?_) λg4=>O
 all_goals
  refine cC _ _ (bW A) (cC _ _ (bW A) (Zh (λh=>e _ (λh=>?_) h) λh=>cC _ _ c ?_))
 grind
 ·have:=hQ (by simp only[e_,bn]at h⊢;omega)
  exact zW
 grind
 ·have:=hQ (by simp only[Bool.not_eq_true',e_,bn,iK]at h⊢;omega)
  exact zW
 grind
 ·have:=hQ (by simp only[e_,bn]at h⊢;omega)
  exact zW
 grind
 ·have:=hQ (by simp only[e_,bn]at h⊢;omega)
  exact zW
def Fi(q)(x)(d)(e:eU q=true):Zu PP II false (aD II 129 2001) 15 (CE q x d 0) (xT (!dV q x d) (xU q x d)):=by
 obtain⟨f,g⟩:=fQ e
 have key:=Zu.of (ι:=Nat) iw [jr] (bm PP II []) 1000 (c:=aD II 129 2001) (ir:=false) 15 (λj=>j<=q.nw/\∀k,k<j->gG q x d k=true) (λj=>CE q x d (j:Int)) (λ_=>xT (!dV q x d) (xU q x d)) (λj=>q.nw-j) (λj=>j+1) 0 A ⟨o_ _,O⟩ λj b=>?_
 ·exact key
 obtain⟨m,n⟩:=b
 by_cases a:j<q.nw
 ·refine CF q x d (!dV q x d) (xU q x d) (j:Int) j A f a (g j a).2.1 ((j+1<=q.nw/\∀k,k<j+1->gG q x d k=true)/\q.nw-(j+1)<q.nw-j/\(xT (!dV q x d) (xU q x d)).pick=(xT (!dV q x d) (xU q x d)).pick) (λh=>⟨⟨a,λk o=>?_⟩,O,rfl⟩) λh=>⟨?_,?_⟩
  grind
  ·have:dV q x d=false:=by
    unfold dV
    rw[List.all_eq_false]
    exact Y
   rw[this];rfl
  ·unfold xU
   rw[Fh a ZD (by rw[h];rfl)]
 ·have b:j=q.nw:=by omega
  have ht:dV q x d=true:=by
   unfold dV
   rw[p_]
   exact ZD
  rw[ht]
  have done:∀(i:Int)(Q:Prop),i=(q.nw:Int)->kr [jr] [] 129 2001 15 (CE q x d) (λ_=>xT (!true) (xU q x d)) (λi=>i+1) Q i:=λi Q l=>by
   rw[wJ _ _ _ _ _ _ _ A A A A]
   have p:B q.nw=(q.nw:Int):=rfl
   refine Zg O λ_=>?_
   exact⟨aZ,trivial⟩
  exact done (j:Int) _ O
def CG{q x d}(a:eU q=true):af PP II 103 [.agg (aY q),.agg (aF x),.int b_ d] HO (.ret (.bool (dV q x d)) HO):=by
 refine CB (ks:=[jr]) (T:=[(2001,15,CE q x d 0,xT (!dV q x d) (xU q x d))]) (λσ=>rfl) ?_
 rw[Nt]
 refine⟨Fi q x d a,?_⟩
 have b:xU q x d>=0:=by
  unfold xU
  split<;>omega
 repeat' (first|exact aZ|exact bC _ _|refine Zf A ?_|refine YG A ?_|refine And.intro ?_ ?_)
 cases dV q x d with
 |true=>exact⟨rfl,rfl⟩
 |false=>exact⟨rfl,by rw[bW b];rfl⟩
def yU:aC PP II where
 f:=103
 spec X args H k _:=jK X 100000 args H λb H'=>X.ak (rM (H'.get 0)) (match b with
  |[.agg [.az nw 3 f,.az ng 1 g,.int b_ a,.int b_ fl,.str nu,.str de,.int b_ top],.agg cs,.int b_ d]=>X.ak (aI 3 nw f&&aI 1 ng g) (X.ak (eU ⟨nw,bG f,ng,λj=>bV (g j) 0,a,fl,nu,de,top⟩) (match iV cs with
   |some x=>k (.bool (dV ⟨nw,bG f,ng,λj=>bV (g j) 0,a,fl,nu,de,top⟩ x d)) H'
   |none=>X.fail))
  |_=>X.fail)
 ok X sem hX args H k kp h:=by
  obtain⟨b,H',c,l⟩:=gC hX _ _ _ _ h
  obtain⟨m,c⟩:=hX.ak _ _ c
  split at c
  ·rename_i nw f ng g a fl nu de top cs d l
   obtain⟨k1,k2⟩:=hX.ak _ _ c
   obtain⟨n,i⟩:=hX.ak _ _ k2
   split at i
   ·rename_i x hx
    have e:=fK hx
    subst e
    simp only[bf]at k1
    have o:=(CG (q:=⟨nw,bG f,ng,λj=>bV (g j) 0,a,fl,nu,de,top⟩) (x:=x) (d:=d) n).dq (args:=[.agg [.az nw 3 f,.az ng 1 g,.int b_ a,.int b_ fl,.str nu,.str de,.int b_ top],.agg (aF x),.int b_ d]) ⟨nQ k1.1 k1.2,⟨⟨rfl,rfl⟩,⟨rfl,rfl⟩,⟨rfl,rfl⟩,⟨rfl,rfl⟩,⟨rfl,rfl⟩,⟨rfl,rfl⟩,⟨rfl,rfl⟩,⟨rfl,rfl⟩,⟨rfl,rfl⟩,⟨rfl,rfl⟩,trivial⟩,⟨rfl,rfl⟩,trivial⟩
    exact⟨.ret _ H',i,(o.CC m (λ_=>rfl) λ_=>rfl).nI l⟩
   ·exact absurd i hX.fail
  ·exact absurd c hX.fail
def CH(q)(x)(d)(Q){b}(f:b=(Zv.cells [i_ 5 2 aA] Access.ro=Zv.cells [i_ 5 2 aA] Access.ro/\Q (C_ [u_ false,q_ b_ 190]))){c}(g:c=(eU {nw:=q.nw,C:=bG (au q.C),ng:=q.ng,G:=λj=>q.G j,a:=q.a,fl:=q.fl,nu:=q.nu,de:=q.de,top:=q.top})){e}(i:e=(aI 3 q.nw (au q.C)&&aI 1 q.ng (aR q.G))):(ko [lQ,nL,yU] [] 43 [.agg (aY q),.agg (aF x),.int b_ d] Q)=(aa e (aa c (ah (!bB x) b (ah (z (d>=x.l)) (ah (!decide (d<=x.h)) b (aa e (aa c (Zv.cells [i_ 5 2 aA] Access.ro=Zv.cells [i_ 5 2 aA] Access.ro/\Q (C_ [u_ (dV {nw:=q.nw,C:=bG (au q.C),ng:=q.ng,G:=λj=>q.G j,a:=q.a,fl:=q.fl,nu:=q.nu,de:=q.de,top:=q.top} x d),q_ b_ 0]))))) b)))):=by subst_vars;kernel_rfl
def toQ:List AV->Option Query
 |[.az nw 3 f,.az ng 1 g,.int b_ a,.int b_ fl,.str nu,.str de,.int b_ top]=>Option.some ⟨nw,bG f,ng,λj=>bV (g j) 0,a,fl,nu,de,top⟩
 |_=>Option.none
def gn:List AV->Bool
 |[.az nw 3 f,.az ng 1 g,.int b_ _,.int b_ _,.str _,.str _,.int b_ _]=>aI 3 nw f&&aI 1 ng g
 |_=>false
def toQ_le{cs q}(h:toQ cs=Option.some q)(k:gn cs=true):j_ (λl=>l) (.agg cs) (.agg (aY q)):=by
 unfold toQ at h
 split at h
 ·cases h
  simp only[gn,bf]at k
  exact nQ k.1 k.2
 ·cases h
def uY(x):j_ (λl=>l) (.agg (aF x)) (.agg (aF x)):=⟨⟨rfl,rfl⟩,⟨rfl,rfl⟩,⟨rfl,rfl⟩,⟨rfl,rfl⟩,⟨rfl,rfl⟩,⟨rfl,rfl⟩,⟨rfl,rfl⟩,⟨rfl,rfl⟩,⟨rfl,rfl⟩,⟨rfl,rfl⟩,trivial⟩
def xG(x:ay)(d:Int):Bool:=z (d>=x.l)&&z (d<=x.h)
def tZ{q x d}(b:aI 3 q.nw (au q.C)=true)(c:aI 1 q.ng (aR q.G)=true)(e:eU q=true)(hx:bB x=true):
  af PP II 43 [.agg (aY q),.agg (aF x),.int b_ d] HO (.ret (.bK [.bool (xG x d&&dV q x d),.int b_ (match xG x d with|true=>0|false=>190)]) HO):=by
 refine CB (ks:=[lQ,nL,yU]) (T:=[]) (λσ=>⟨rfl,⟨rfl,rfl⟩,trivial⟩) ?_
 rw[CH _ _ _ _ A A A,b,c,show eU _=true from(oH q).trans e,hx]
 refine cC _ _ A (cC _ _ A ?_)
 show ah (z (d>=x.l)) _ _
 refine Zh (λh=>Zh (λa=>?_) λa=>?_) λh=>?_
 ·have a:z (d<=x.h)=false:=by simpa using a
  unfold xG;grind
 ·have a:z (d<=x.h)=true:=by simpa using a
  unfold xG;rw[h,a]
  exact cC _ _ A (cC _ _ A ⟨rfl,rfl⟩)
 ·unfold xG;grind
def af.nT{P I f x y a b d i H o}(h:af P I f [b,d,i] H o)(k1:j_ (λl=>l) x b)(k2:j_ (λl=>l) y d)(j:j_ (λl=>l) a i):af P I f [x,y,a] H o :=
 λc ρ w vs hG m q=>h c ρ w vs hG (aU.tQ (show bt.le _ [x,y,a] [b,d,i]from⟨k1,k2,j,trivial⟩) m) q
def af.dA{P I f x y a b H o}(h:af P I f [a,b] H o)(k1:j_ (λl=>l) x a)(k2:j_ (λl=>l) y b):af P I f [x,y] H o :=
 λc ρ w vs hG d i=>h c ρ w vs hG (aU.tQ (show bt.le _ [x,y] [a,b]from⟨k1,k2,trivial⟩) d) i
def rN{cs q}(h:toQ cs=Option.some q)(k:gn cs=true):aI 3 q.nw (au q.C)=true/\aI 1 q.ng (aR q.G)=true:=by
 unfold toQ at h
 split at h
 ·cases h
  simp only[gn,bf]at k
  exact⟨s8 k.1,yP k.2⟩
 ·cases h
def aC.CC(f:FuncId)(spec:{R:Type}->RI R->List AV->(AV->R)->R)
  (ok:∀{R:Type}(X:RI R)(sem:R->Prop),X.Ok sem->∀args c,sem (spec X args c)->∃a,sem (c a)/\(∀σ,a.bD σ=a)/\(∀σ,bt.bD σ args=args)/\af PP II f args HO (.ret a HO)):aC PP II where
 f:=f
 spec X args H c _:=jK X 100000 args H λb H'=>X.ak (rM (H'.get 0)) (spec X b λa=>c a H')
 ok X sem hX args H c kp h:=by
  obtain⟨b,H',d,i⟩:=gC hX _ _ _ _ h
  obtain⟨j,d⟩:=hX.ak _ _ d
  obtain⟨a,k1,k2,l,m⟩:=ok X sem hX _ _ d
  exact⟨.ret a H',k1,(m.CC j l k2).nI i⟩
def nU{cs q}(h:toQ cs=Option.some q)(σ):D_ σ (.agg cs)= .agg cs:=by
 unfold toQ at h
 split at h
 ·rfl
 ·cases h
def mg:aC PP II:=aC.CC 43
 (λX args c=>match args with
  |[.agg cs,.agg ds,.int b_ d]=>match toQ cs,iV ds with
   |some q,some x=>X.ak (gn cs&&eU q&&bB x) (c (.bK [.bool (xG x d&&dV q x d),.int b_ (match xG x d with|true=>0|false=>190)]))
   |_,_=>X.fail
  |_=>X.fail)
 λX sem hX args c h=>by
  split at h
  ·split at h
   ·rename_i q x b hx
    obtain⟨a,e⟩:=hX.ak _ _ h
    simp only[bf]at a
    cases fK hx
    obtain⟨r1,f⟩:=rN b a.1.1
    refine⟨_,e,λ_=>rfl,λσ=>?_,af.nT (tZ r1 f a.1.2 a.2) (toQ_le b a.1.1) (uY x) ⟨rfl,rfl⟩⟩
    show [D_ σ (.agg _),_,_]=_
    rw[nU b];rfl
   ·exact zR
  ·exact zR
def CI(q:Query)(x:ay)(K:Nat->Int)(i:Int):St:={t:=d_ [(3,.ptr 13 0 0 0),(6,.own 14 i.toNat 1),(18,.az q.ng 1 (aR q.G)),(19,.int b_ (B q.ng)),(20,.int b_ i)],nt:=32,H:={n:=15,t:=d_ [(0,.cells [.az 5 2 aA] .ro),(13,.cells (aF x) (.ty 48)),(14,.rows i.toNat 1 (ae K) (.ty 3))]},df:=[]}
def xV(n:Nat)(K:Nat->Int):GE:=.one (.x 0 {t:=d_ [(6,.own 14 n 1)],nt:=32,H:={n:=15,t:=d_ [(0,.cells [.az 5 2 aA] .ro),(14,.rows n 1 (ae K) (.ty 3))]},df:=[]})
def CJ(q)(x)(K)(i)(Q):(kr [jr] [] 30 5001 14 (CI q x K) (λ_=>xV q.ng K) (λi=>i+1) Q i)=(ah (z (i<B q.ng)) (aa (z (0<=i)&&z (i<B q.ng)) (aa (z (i.toNat<=i.toNat)&&true&&true&&z ((i.toNat+1)*8<=140737488355328)&&true) (aa (aN b_ (i+1)) (ax (i.toNat+1) (a_ (i+1)) (an (i.toNat+1) (λa=>bif f_ a i.toNat then ae K a else r_ 1 (s_ (0+(a-i.toNat)*1) [q_ b_ (gJ x (q.G i.toNat) 0)])) (ae K)/\zyI x.t (zyI x.s (zyI x.v (zyI x.w (zyI x.o (zyI x.p (zyI x.d (zyI x.l (zyI x.h (zyI x.b (zyR 5 aA (zyI (B q.ng) (zyI (i+1) (zyN q.ng (zyR q.ng (aR q.G) (ax (i.toNat+1) (a_ (i+1)) Q)))))))))))))))))))) (ax i.toNat q.ng (zyR i.toNat (ae K) (zyR 5 aA (ax i.toNat q.ng True))))):=U
def Um(q)(x)(K)(Q):(ko [lQ,nL] [(5001,14,CI q x K 0,xV q.ng K)] 30 [.agg (aY q),.agg (aF x)] Q)=(aa (aI 3 q.nw (au q.C)&&aI 1 q.ng (aR q.G)) (aa (eU {nw:=q.nw,C:=bG (au q.C),ng:=q.ng,G:=λj=>q.G j,a:=q.a,fl:=q.fl,nu:=q.nu,de:=q.de,top:=q.top}) (ah (!bB x) (Zv.cells [i_ 5 2 aA] Access.ro=Zv.cells [i_ 5 2 aA] Access.ro/\Q (C_ [AV.aw,q_ b_ 190])) (Zu PP II false (aD II 30 5001) 14 (CI q x K 0) (xV q.ng K)/\zyI x.t (zyI x.s (zyI x.v (zyI x.w (zyI x.o (zyI x.p (zyI x.d (zyI x.l (zyI x.h (zyI x.b (zyR 5 aA (zyI (B q.ng) (zyN q.ng (zyR q.ng (aR q.G) (aa ((l_ (List.range.loop q.ng []) λi=>true)&&z (q.ng<=q.ng)) (Zv.cells [i_ 5 2 aA] Access.ro=Zv.cells [i_ 5 2 aA] Access.ro/\Q (C_ [i_ q.ng 1 (ae K),q_ b_ 0])))))))))))))))))))):=U
def bc(q:Query)(x:ay)(j:Nat):Int:=gJ x (q.G j) 0
def bL(n)(W):an n (ae W) (ae W):=Zj λ_ _=>Zy _ _ _
def eV{a b}(h:a<b):f_ a b=true:=ZD
def js{a b}(h :¬ a<b):f_ a b=false:=by rw[Bool.eq_false_iff];simp_all
def ey(W)(j)(v)(a:v=W j):an (j+1) (λi=>bif f_ i j then ae W i else r_ 1 (s_ (0+(i-j)*1) [.int b_ v])) (ae W):=λk b σ=>by
 show bt.le σ (bif f_ k j then ae W k else r_ 1 (s_ (0+(k-j)*1) [.int b_ v])) (ae W k)
 by_cases h:k<j
 ·rw[eV h];exact Zy _ _ _
 ·have:k=j:=by omega
  subst this
  rw[js h,show 0+(k-k)*1=0 by omega,a]
  exact⟨⟨rfl,rfl⟩,trivial⟩
def Jl(q)(x)(i)(j:Nat)(a:i=(j:Int))(d:q.ng<=4)(e:j<q.ng)(Q)(hQ:Q):kr [jr] [] 30 5001 14 (CI q x (bc q x)) (λ_=>xV q.ng (bc q x)) (λi=>i+1) Q i:=by
 rw[CJ]
 have b:a_ i=j:=O
 have c:a_ (i+1)=j+1:=O
 have f:B q.ng=(q.ng:Int):=rfl
 rw[b,c]
 refine Zg (λ_=>?_) O
 refine cC _ _ Y (cC _ _ Y (cC _ _ (aq O O) ?_))
 have rows:=ey (bc q x) j (gJ x (q.G j) 0) A
 repeat' (first|exact hQ|exact rows|exact aZ|exact bO _ _|refine Zf A ?_|refine YG A ?_|refine And.intro ?_ ?_)
def Nu(q)(x)(d:q.ng<=4):Zu PP II false (aD II 30 5001) 14 (CI q x (bc q x) 0) (xV q.ng (bc q x)):=by
 have key:=Zu.of (ι:=Nat) iw [jr] (bm PP II []) 1000 (c:=aD II 30 5001) (ir:=false) 14 (λj=>j<=q.ng) (λj=>CI q x (bc q x) (j:Int)) (λ_=>xV q.ng (bc q x)) (λj=>q.ng-j) (λj=>j+1) 0 A (o_ _) λj b=>?_
 ·exact key
 by_cases a:j<q.ng
 ·exact Jl q x (j:Int) j A d a (j+1<=q.ng/\q.ng-(j+1)<q.ng-j/\(xV q.ng (bc q x)).pick=(xV q.ng (bc q x)).pick) Y
 ·have b:j=q.ng:=by have:j<=q.ng:=b;omega
  have done:∀(i:Int)(Q:Prop),i=(q.ng:Int)->kr [jr] [] 30 5001 14 (CI q x (bc q x)) (λ_=>xV q.ng (bc q x)) (λi=>i+1) Q i:=λi Q e=>by
   rw[CJ]
   have g:B q.ng=(q.ng:Int):=rfl
   have f:i.toNat=q.ng:=O
   refine Zg O λ_=>?_
   rw[f]
   exact YG A ⟨bL _ _,aZ,YG A trivial⟩
  exact done (j:Int) _ O
def Un{q}(h:eU q=true):q.ng<=4:=by
 unfold eU at h
 grind
def Uo{q x}(b:aI 3 q.nw (au q.C)=true)(c:aI 1 q.ng (aR q.G)=true)(a:eU q=true)(hx:bB x=true):
  af PP II 30 [.agg (aY q),.agg (aF x)] HO (.ret (.bK [.az q.ng 1 (ae (bc q x)),.int b_ 0]) HO):=by
 refine CB (ks:=[lQ,nL]) (T:=[(5001,14,CI q x (bc q x) 0,xV q.ng (bc q x))]) (λσ=>⟨⟨rfl,rfl,λ_ _=>Zy _ _ _⟩,⟨rfl,rfl⟩,trivial⟩) ?_
 rw[Um,b,c,show eU _=true from(oH q).trans a,hx]
 refine cC _ _ A (cC _ _ A ⟨Nu q x (Un a),?_⟩)
 repeat' (first|exact aZ|exact bO _ _|refine Zf A ?_|refine YG A ?_|refine And.intro ?_ ?_|exact cC _ _ zA ⟨rfl,rfl⟩)
section
open Go.Sort Go.Shelf Go.Proofs
def bX(k:Nat)(W:Nat->Int):Bool:=A_ k 1000&&(k_ k).all λi=>z (0<=W i)&&z (W i<=4398046511104)
def dW{k W}(h:bX k W=true):k<=1000/\∀i,i<k->0<=W i/\W i<=4398046511104:=by
 unfold bX at h
 simp_all
def Jm{k W}(g:k<=1000000):Zu PP II false (aD II 346 1001) 37 (Cx k W 0) (Cy k W):=by
 have key:=Zu.of (ι:=Nat) iw [] (bm PP II []) 1000 (c:=aD II 346 1001) (ir:=false) 37 (λi=>i<=k) (λi=>Cx k W (i:Int)) (λ_=>Cy k W) (λi=>k-i) (λi=>i+1) 0 A (o_ _) λi hi=>?_
 ·exact key
 have hi:i<=k:=hi
 by_cases a:i<k
 ·have go:∀(j:Int)(Q:Prop),j=(i:Int)->Q->kr [] [] 346 1001 37 (Cx k W) (λ_=>Cy k W) (λi=>i+1) Q j:=λj Q d hQ=>by
   rw[yS]
   have b:a_ j=i:=O
   have e:a_ (j+1)=i+1:=O
   have f:B k=(k:Int):=rfl
   rw[b,e]
   have rows:=ey W i (W i) A
   refine Zg (λ_=>?_) O
   refine cC _ _ Y (cC _ _ Y (cC _ _ (aq O O) ?_))
   exact YG A ⟨rows,rfl,rfl,YG A (Zi A (Zi A (Zf A (YG A ⟨bL _ _,Zf A hQ⟩))))⟩
  exact go (i:Int) _ A ⟨a,O,rfl⟩
 ·have hi:i=k:=by omega
  subst hi
  have go:∀(j:Int)(Q:Prop),j=(i:Int)->kr [] [] 346 1001 37 (Cx i W) (λ_=>Cy i W) (λi=>i+1) Q j:=λj Q d=>by
   rw[yS]
   have f:B i=(i:Int):=rfl
   have b:a_ j=a_ (B i):=O
   refine Zg O λ_=>?_
   rw[b]
   exact YG A ⟨bL _ _,rfl,rfl,YG A (Zi A (Zi A trivial))⟩
  exact go (i:Int) _ A
def lC(nu de:List UInt8)(k:Nat):Int:=(if h_ (bl nu*B k+bl de-1) (bl de)>1 then h_ (bl nu*B k+bl de-1) (bl de)else 1)-1
def iD(nu de:List UInt8)(k:Nat)(W:Nat->Int):Int:=bQ k W (lC nu de k).toNat
structure SQ (nu de:List UInt8):Prop where
 a1:iX nu=true
 a2:iX de=true
 l1:nu.length<=1000000
 l2:de.length<=1000000
 n0:0<=bl nu
 nd:bl nu<=bl de
 d1:1<=bl de
 d10:bl de<=10
def XT{nu de}(h:oa nu de=true):SQ nu de:=by
 unfold oa at h
 rw[List.any_eq_true]at h
 obtain⟨k,a,h⟩:=h
 simp only[bf,bn]at h
 obtain⟨rfl,rfl⟩:=h
 have a:=List.mem_range.1 a
 match k,a with
 |0,_=>exact⟨rfl,rfl,zC,zC,zC,zC,zC,zC⟩
 |1,_=>exact⟨rfl,rfl,zC,zC,zC,zC,zC,zC⟩
 |2,_=>exact⟨rfl,rfl,zC,zC,zC,zC,zC,zC⟩
 |3,_=>exact⟨rfl,rfl,zC,zC,zC,zC,zC,zC⟩
 |4,_=>exact⟨rfl,rfl,zC,zC,zC,zC,zC,zC⟩
 |5,_=>exact⟨rfl,rfl,zC,zC,zC,zC,zC,zC⟩
 |6,_=>exact⟨rfl,rfl,zC,zC,zC,zC,zC,zC⟩
 |7,_=>exact⟨rfl,rfl,zC,zC,zC,zC,zC,zC⟩
 |8,_=>exact⟨rfl,rfl,zC,zC,zC,zC,zC,zC⟩
 |9,_=>exact⟨rfl,rfl,zC,zC,zC,zC,zC,zC⟩
 |10,_=>exact⟨rfl,rfl,zC,zC,zC,zC,zC,zC⟩
 |k+11,h=>omega
def qI{k W i}(hi:i<k):∃j,j<k/\bQ k W i=W j:=by
 have a:=nR (ltOf Lib.compareInt) k W
 have:bQ k W i∈dp (ltOf Lib.compareInt) k W:=by
  unfold bQ
  rw[List.getD_eq_getElem?_getD,mo O]
  exact List.getElem_mem _
 unfold dp at this
 rw[List.mem_mergeSort]at this
 grind
def yV{nu de}(h:SQ nu de){k}(c:0<k)(f:k<=1000):0<=lC nu de k/\lC nu de k<k/\0<=bl nu*B k/\bl nu*B k<=10000/\0<=h_ (bl nu*B k+bl de-1) (bl de)/\h_ (bl nu*B k+bl de-1) (bl de)<=k:=by
 obtain⟨_,_,_,_,n0,nd,d1,d10⟩:=h
 unfold lC
 have a:(0:Int)<=B k:=Int.natCast_nonneg k
 have b:B k=(k:Int):=rfl
 generalize bl nu=n at*
 generalize bl de=d at*
 have g:0<=n*B k:=Int.mul_nonneg n0 a
 have i:n*B k<=d*B k:=ZD
 have j:d*B k<=10*B k:=ZD
 have e:h_ (n*B k+d-1) d=(n*B k+d-1)/d:=Y
 rw[e]
 have q1:0<=(n*B k+d-1)/d:=Int.ediv_nonneg O O
 have l:(n*B k+d-1)/d<(k:Int)+1:=by
  refine Int.ediv_lt_of_lt_mul O ?_
  rw[Int.add_mul,Int.mul_comm (k:Int) d]
  have m:d*B k=d*(k:Int):=rfl
  omega
 omega
def QB{nw ng k:Nat}{f g:Nat->List AV}{W:Nat->Int}{a fl top:Int}{nu de:List UInt8}(e:bX k W=true)(d:0<k)(h:oa nu de=true):
  af PP II 341 [rJ nw ng f g a fl top nu de,.az k 1 (ae W)] HP (.ret (kA (iD nu de k W).toNat 1) HP):=by
 have b:=XT h
 obtain⟨l,m⟩:=dW e
 obtain⟨n,q1,s,t,t1,t2⟩:=yV b d l
 obtain⟨j,o,p⟩:=qI (W:=W) (i:=(lC nu de k).toNat) (O:(lC nu de k).toNat<k)
 have c:=m j o
 rw[<-p]at c
 refine kz (T:=[(1001,37,Cx k W 0,Cy k W)]) ((Qw nw ng k f g W a fl top nu de _ A A).mpr ?_)
 obtain⟨a1,a2,l1,l2,n0,nd,d1,d10⟩:=b
 have lp:=Jm (W:=W) (O:k<=1000000)
 have q:a_ (B k)=k:=rfl
 rw[q]
 have c0:(l_ (List.range.loop k []) λi=>true)=true:=List.all_eq_true.2 λ_ _=>rfl
 refine cC _ _ (by rw[a1,kV l1];rfl) (cC _ _ (by rw[a2,kV l2];rfl) ⟨lp,rfl,rfl,Zi A (Zi A (YG A ⟨bL _ _,Zf A ?_⟩))⟩)
 refine cC _ _ (by rw[c0,ni,eV d,eV (O:k<4611686018427387904)];rfl) (cC _ _ (bW A) (cC _ _ (bW A) ?_))
 refine cC _ _ (aq O O) (cC _ _ (aq O O) (cC _ _ (aq O O) (cC _ _ ?_ ?_)))
 ·rw[aq O O,nZ O];rfl
 have eq:(if h_ (bl nu*B k+bl de-1) (bl de)>1 then h_ (bl nu*B k+bl de-1) (bl de)else 1)-1=lC nu de k:=rfl
 rw[eq]
 have r:bQ k (λi=>W i) (lC nu de k).toNat=iD nu de k W:=rfl
 rw[r]
 have c:0<=iD nu de k W/\iD nu de k W<=4398046511104:=c
 refine cC _ _ (aq O O) (cC _ _ ?_ (cC _ _ (bW O) (cC _ _ (AJ c.1 (aq O O)) (λ_=>⟨rfl,rfl,trivial⟩))))
 simp only[bf,bn]
 exact⟨n,q1⟩
def aae:aC PP II:=aC.l8 341
 (λX args b=>match args with
  |[.agg [.az _ 3 _,.az _ 1 _,.int b_ _,.int b_ _,.str nu,.str de,.int b_ _],.az k 1 r]=>X.ak (bA k r&&bX k (aM r)&&f_ 0 k&&oa nu de) (b (kA (iD nu de k (aM r)).toNat 1))
  |_=>X.fail)
 λX sem hX args b h=>by
  split at h
  ·obtain⟨a,c⟩:=hX.ak _ _ h
   simp only[bf,Nat.blt_eq]at a
   exact⟨_,c,λ_=>rfl,λ_=>rfl,af.rI (QB a.1.1.2 a.1.2 a.2) (cy a.1.1.1)⟩
  ·exact zR
def Up(q)(k)(W)(Q){b}(e:b=(a_ (du (λi=>W i) k))){c}(f:c=(l_ (List.range.loop k []) λi=>true)){d}(g:d=(iD q.nu q.de k λi=>W i)):(kq [SM,XR,SO,XS,aae] [] 44 [.agg (aY q),.az k 1 (ae W)] Q)=(ah (z (B k=0)) (Q (m_ [g_ [48],g_ [49]])) (ah (z (q.a=1)) (aa (c&&aN b_ (B k)) (Q (m_ [g_ (bu (k/c_ k 1)),g_ (bu (1/c_ k 1))]))) (ah (z (q.a=2)) (aa (iu k (ae W)&&z (0<=du (λi=>W i) k)) (Q (m_ [g_ (bu (a_ (du (λi=>W i) k)/c_ b 1)),g_ (bu (1/c_ b 1))]))) (ah (z (q.a=3)) (aa (iu k (ae W)&&z (0<=du (λi=>W i) k)&&f_ 0 k&&aN b_ (B k)) (Q (m_ [g_ (bu (a_ (du (λi=>W i) k)/c_ b k)),g_ (bu (k/c_ b k))]))) (ah (z (q.a=4)) (aa (c&&A_ k 1000000000000&&f_ 0 k&&z (0<=cG (λi=>W i) k)&&aN b_ (cG (λi=>W i) k)) (Q (m_ [g_ (bu (a_ (cG (λi=>W i) k)/c_ (a_ (cG (λi=>W i) k)) 1)),g_ (bu (1/c_ (a_ (cG (λi=>W i) k)) 1))]))) (ah (z (q.a=5)) (aa ((c&&bX k λi=>W i)&&f_ 0 k&&oa q.nu q.de) (Q (m_ [g_ (bu (d.toNat/c_ d.toNat 1)),g_ (bu (1/c_ d.toNat 1))]))) False)))))):=by subst_vars;kernel_rfl
end
section
open Go.Sort Go.Shelf Go.Proofs
def jO(q:Query)(k:Nat)(W:Nat->Int):Nat×Nat :=
 if k=0 then(0,1)else if q.a=1 then(k,1)else if q.a=2 then((du W k).toNat,1)else if q.a=3 then((du W k).toNat,k)else if q.a=4 then((cG W k).toNat,1)else((iD q.nu q.de k W).toNat,1)
def c8(q:Query)(k:Nat)(W:Nat->Int):List UInt8:=bu ((jO q k W).1/c_ (jO q k W).1 (jO q k W).2)
def da(q:Query)(k:Nat)(W:Nat->Int):List UInt8:=bu ((jO q k W).2/c_ (jO q k W).1 (jO q k W).2)
def QD{W k}(h:∀i,i<k->0<=W i/\W i<=4398046511104):0<=du W k/\du W k<=4398046511104*k:=by
 induction k with
 |zero=>exact⟨B_ _,B_ _⟩
 |succ k a=>
  obtain⟨b,c⟩:=a λi hi=>h i O
  obtain⟨d,e⟩:=h k O
  show 0<=du W k+W k/\du W k+W k<=_
  omega
def pH(W):∀k,0<k->∃j,j<k/\cG W k=W j
 |1,_=>⟨0,O,by show(if W 0>W 0 then W 0 else W 0)=_;split<;>rfl⟩
 |k+2,_=>by
  obtain⟨j,a,e⟩:=pH W (k+1) O
  show ∃j,j<k+2/\(if W (k+1)>cG W (k+1)then W (k+1)else cG W (k+1))=W j
  grind
def ua{k W}(h:bX k W=true):iu k (ae W)=true/\0<=du W k/\du W k<=4398046511104000:=by
 obtain⟨d,b⟩:=dW h
 have a:=λ(i:Nat) (hi:i<=k)=>QD (W:=W) (k:=i) λj e=>b j O
 obtain⟨c,f⟩:=a k (dw _)
 refine⟨?_,c,O⟩
 unfold iu
 rw[dy,kV O,z_,z_,p_]
 intro i hi
 have hi:=List.mem_range.1 hi
 obtain⟨g,l⟩:=a i O
 show aN b_ (du W i)=true
 exact aq O O
def QE{q k W}(h:bX k W=true)(a:eU q=true):(jO q k W).1<9223372036854775808/\(jO q k W).2<9223372036854775808/\0<(jO q k W).2:=by
 obtain⟨f,e⟩:=dW h
 obtain⟨_,m,n⟩:=ua h
 unfold jO
 by_cases g:k=0
 grind
 rw[if_neg g]
 obtain⟨j,b,c⟩:=pH W k O
 have l:=e j b
 rw[<-c]at l
 split
 omega
 split
 omega
 split
 omega
 split
 omega
 ·rename_i n1 o p r
  refine⟨?_,by show 1<_;omega,Nat.one_pos⟩
  have ht:oa q.nu q.de=true:=by
   unfold eU EV at a
   simp only[bf,w_,bn]at a
   rcases a.2 with(h|h)|h
   ·omega
   ·exact h.2
   ·omega
  obtain⟨s,q1,_⟩:=yV (XT ht) (O:0<k) f
  obtain⟨j,b,c⟩:=qI (W:=W) (i:=(lC q.nu q.de k).toNat) (O:(lC q.nu q.de k).toNat<k)
  have d:=e j b
  rw[<-c]at d
  have d:0<=iD q.nu q.de k W/\iD q.nu q.de k W<=4398046511104:=d
  omega
def Jn{n d:Nat}(b:n<9223372036854775808)(c:d<9223372036854775808)(e:0<d):bJ (bu (n/c_ n d)) (bu (d/c_ n d))=true:=by
 have a:0<c_ n d:=Y
 have t1:=dS (x_ n (c_ n d)) (jL b)
 have t2:=dS (x_ d (c_ n d)) (jL c)
 unfold bJ
 rw[dc t1,dc t2,cq,cq,eV (Nat.div_pos (Nat.le_of_dvd e (t_ n d)) a),Nat.gcd_div (Nat.gcd_dvd_left n d) (t_ n d),Nat.div_self a]
 rfl
def cz{q k W}(h:bX k W=true)(a:eU q=true):bJ (c8 q k W) (da q k W)=true:=by
 obtain⟨b,c,d⟩:=QE h a
 exact Jn b c d
def Fj{q k W}(h:bX k W=true)(g:eU q=true):af PP II 44 [.agg (aY q),.az k 1 (ae W)] HR (.ret (.agg [.str (c8 q k W),.str (da q k W)]) HR):=by
 obtain⟨y,n⟩:=dW h
 obtain⟨s0,C,D⟩:=ua h
 refine qh (ks:=[SM,XR,SO,XS,aae]) (T:=[]) ?_
 rw[Up _ _ _ _ A A A]
 have c0:(l_ (List.range.loop k []) λi=>true)=true:=zA
 have e:∀(a b c d:List UInt8),a=c->b=d->∀σ,j_ σ (.agg [.str a,.str b]) (.agg [.str c,.str d]):=λa b c d o p σ=>⟨o,p,trivial⟩
 unfold c8 da jO
 refine Zg (λf=>?_) λf=>?_
 ·have f:k=0:=Int.ofNat_inj.1 f
  rw[if_pos f]
  refine e _ _ _ _ ?_ ?_
  ·show _=bu (0/c_ 0 1)
   exact ly.symm
  ·show _=bu (1/c_ 0 1)
   exact GR.symm
 have f:k≠0:=ZD
 rw[if_neg f]
 have kp:0<k:=Nat.pos_of_ne_zero f
 obtain⟨j,r,s⟩:=pH W k kp
 have t:=n j r
 rw[<-s]at t
 have u:aN b_ (cG W k)=true:=aq O O
 have v:aN b_ (B k)=true:=aq zA Y
 refine Zg (λa1=>?_) λn1=>Zg (λa2=>?_) λl=>Zg (λw=>?_) λm=>Zg (λa4=>?_) λx=>Zg (λE=>?_) λF=>?_
 ·rw[if_pos a1]
  exact cC _ _ (by rw[c0,v];rfl) (e _ _ _ _ A A)
 ·rw[if_neg n1,if_pos a2]
  exact cC _ _ Y (e _ _ _ _ A A)
 ·rw[if_neg n1,if_neg l,if_pos w]
  exact cC _ _ ZD (e _ _ _ _ A A)
 ·rw[if_neg n1,if_neg l,if_neg m,if_pos a4]
  exact cC _ _ (by rw[c0,kV O,eV kp,bW ZD,show aN b_ (cG (λi=>W i) k)=true from u];rfl) (e _ _ _ _ A A)
 ·rw[if_neg n1,if_neg l,if_neg m,if_neg x]
  have ht:oa q.nu q.de=true:=by
   unfold eU EV at g
   simp only[bf,w_,bn]at g
   rcases g.2 with(h|h)|h
   ·omega
   ·exact h.2
   ·omega
  exact cC _ _ ZD (e _ _ _ _ A A)
 ·unfold eU EV at g
  grind
def fS:aC PP II:=aC.s9 44
 (λX args c=>match args with
  |[.agg cs,.az k 1 r]=>match toQ cs with
   |some q=>X.ak (gn cs&&eU q&&bA k r&&bX k (aM r)) (c (.agg [.str (c8 q k (aM r)),.str (da q k (aM r))]))
   |none=>X.fail
  |[.agg cs,.aw]=>match toQ cs with
   |some q=>X.ak (gn cs&&eU q) (c (.agg [.str (c8 q 0 λ_=>0),.str (da q 0 λ_=>0)]))
   |none=>X.fail
  |_=>X.fail)
 λX sem hX args c h=>by
  split at h
  ·split at h
   ·rename_i q b
    obtain⟨a,d⟩:=hX.ak _ _ h
    simp only[bf]at a
    refine⟨_,d,λ_=>rfl,λσ=>?_,af.dA (Fj a.2 a.1.1.2) (toQ_le b a.1.1.1) (cy a.1.2)⟩
    show [D_ σ (.agg _),_]=_
    rw[nU b];rfl
   ·exact zR
  ·split at h
   ·rename_i q b
    obtain⟨a,d⟩:=hX.ak _ _ h
    simp only[bf]at a
    refine⟨_,d,λ_=>rfl,λσ=>?_,af.dA (Fj (k:=0) (W:=λ_=>0) A a.2) (toQ_le b a.1) (by rfl)⟩
    show [D_ σ (.agg _),_]=_
    rw[nU b];rfl
   ·exact zR
  ·exact zR
end
end
end Go.Sx
