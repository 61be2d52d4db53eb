/- The proof of a statement of the seat, part 25. -/
import Derived.Test.YtoijalagmmgkbaaGreatDoorX24
import Derived.Test.YtoijalagmmgkbaaGreatDoorX11
import Derived.Test.YtoijalagmmgkbaaGreatDoorX18
import Derived.Test.YtoijalagmmgkbaaGreatDoorX19
import Derived.Test.YtoijalagmmgkbaaGreatDoorX14
set_option linter.all false
set_option linter.defProp false
set_option maxRecDepth 1000000
namespace Go.Sx
open Go
open Go.IntKind renaming i64->M
open Decidable renaming decide->z
open Int renaming ofNat->a_,toNat->n_
open Tr renaming ofList->b_
open AV renaming int->c_,ab->g_,le->k_,bool->m_,bK->o_
open AH renaming get_set_same->d_,bk->l_
open Bool renaming not_eq_false'->e_
open List renaming beq->f_,range->h_,take->p_,drop->q_,all->r_
open Nat renaming blt->i_
noncomputable section
def Rel.same{c ρ H H' w}(h:Rel c ρ H w)(hn:H'.n=H.n)(i:∀l,bp ρ w (ρ l) (H.get l)->bp ρ w (ρ l) (H'.get l))(j:∀l,(H'.get l).rw=(H.get l).rw)(d:∀l,H'.get l= .dead↔H.get l= .dead):Rel c ρ H' w where
 dF l:=i l (h.dF l)
 sep l f r N m b a h1 o:=(d f).2 (h.sep l f r N m b Y h1 o)
 gL l r N a h1:=h.gL l r N Y h1
 gH:=h.gH
 size:=h.size
 os:=h.os
 output:=h.output
 tape:=h.tape
 top l hl:=h.top l O
 fp:=h.fp
 hid l r N q h1:=h.hid l r N ZD h1
 env l hl:=by rw[hn];exact h.env l hl
 low l hl:=(d l).2 (h.low l O)
 qY:=h.qY
 pV l r N a h1:=h.pV l r N Y h1
 xw:=h.xw
 qZ:=h.qZ
def nS(cs:List AV)(i:Nat):Bool:=match i,cs with
 |0,[.str [],.aB]=>true
 |1,[.str [61],.fn 331 [] []]=>true
 |2,[.str [33,61],.fn 332 [] []]=>true
 |3,[.str [60],.fn 333 [] []]=>true
 |4,[.str [62,61],.fn 334 [] []]=>true
 |_,_=>false
def rM(b:ai):Bool:=match b with
 | .cells [.ab 5 2 f] .ro=>nS (f 0) 0&&nS (f 1) 1&&nS (f 2) 2&&nS (f 3) 3&&nS (f 4) 4
 |_=>false
def lB{cs i}(h:nS cs i=true):cs=aA i:=by
 unfold nS at h
 split at h<;>first|rfl|cases h
def wH{b}(h:rM b=true):∃f,b= .cells [.ab 5 2 f] .ro/\∀i,i<5->f i=aA i:=by
 unfold rM at h
 split at h
 ·rename_i f
  simp only[bf]at h
  obtain⟨⟨⟨⟨a,c⟩,d⟩,e⟩,g⟩:=h
  refine⟨f,rfl,λi hi=>?_⟩
  match i,hi with
  |0,_=>exact lB a
  |1,_=>exact lB c
  |2,_=>exact lB d
  |3,_=>exact lB e
  |4,_=>exact lB g
  |i+5,h=>omega
 ·cases h
def Ul{f g}(h:∀i,i<5->f i=aA i)(k:∀i,i<5->g i=aA i){ρ w o}(a:bp ρ w o (.cells [.ab 5 2 f] .ro)):bp ρ w o (.cells [.ab 5 2 g] .ro):=by
 have:ai.le (λl=>l) (.cells [.ab 5 2 f] .ro) (.cells [.ab 5 2 g] .ro):=by
  refine⟨⟨⟨rfl,rfl,λi hi=>?_⟩,trivial⟩,trivial⟩
  rw[h i hi,k i hi]
  exact aZ i hi _
 exact bp.le this a
def af.CC{f:FuncId}{args:List AV}{a:AV}{H:AH}(h:af PP II f args HO (.ret a HO))(E:rM (H.get 0)=true)(d:∀σ,bt.bD σ args=args)(ha:∀σ,a.bD σ=a):af PP II f args H (.ret a H):=by
 obtain⟨g,j,y⟩:=wH E
 have o:af PP II f args (H.set 0 (.cells [.ab 5 2 aA] .ro)) (.ret a (H.set 0 (.cells [.ab 5 2 aA] .ro))):=by
  refine af.SE (I:=II) (H0:=HO) h A (λi hi=>?_) (λi hi C=>?_) d ha
  ·have hi:12<=i:=hi
   rw[AO,if_neg O]
  ·by_cases e:i=0
   ·subst e
    rw[d_,AO,if_pos A]
    exact⟨rfl,λσ=>rfl⟩
   ·rw[AO,if_neg e]at C;exact absurd A C
 have q:∀c ρ w,Rel c ρ H w->Rel c ρ (H.set 0 (.cells [.ab 5 2 aA] .ro)) w:=λc ρ w m=>by
  refine m.same A (λl hl=>?_) (λl=>?_) λl=>?_
  ·by_cases e:l=0
   ·subst e
    rw[d_]
    rw[j]at hl
    exact Ul y (λ_ _=>rfl) hl
   ·rw[l_ _ _ (λb=>e b.symm)];exact hl
  ·by_cases e:l=0
   ·subst e;rw[d_,j];rfl
   ·rw[l_ _ _ (λb=>e b.symm)]
  ·by_cases e:l=0
   ·subst e;rw[d_,j];simp
   ·rw[l_ _ _ (λb=>e b.symm)]
 have back:∀c ρ w,Rel c ρ (H.set 0 (.cells [.ab 5 2 aA] .ro)) w->Rel c ρ H w:=λc ρ w m=>by
  refine m.same A (λl hl=>?_) (λl=>?_) λl=>?_
  ·by_cases e:l=0
   ·subst e
    rw[d_]at hl
    rw[j]
    exact Ul (λ_ _=>rfl) y hl
   ·rw[l_ _ _ (λb=>e b.symm)]at hl;exact hl
  ·by_cases e:l=0
   ·subst e;rw[d_,j];rfl
   ·rw[l_ _ _ (λb=>e b.symm)]
  ·by_cases e:l=0
   ·subst e;rw[d_,j];simp
   ·rw[l_ _ _ (λb=>e b.symm)]
 intro c ρ w vs hG F m
 have post:∀e w',(CO.ret a (H.set 0 (.cells [.ab 5 2 aA] .ro))).post c ρ e w'->(CO.ret a H).post c ρ e w':=by
  intro e w' s
  cases e with
  |returned v=>
   obtain⟨ρ',hx,t,u⟩:=s
   exact⟨ρ',hx,back _ _ _ t,u⟩
  |panicked G=>exact s.elim
  |outgrown=>exact s.elim
 rcases o c ρ w vs hG F (q _ _ _ m)with⟨o,D⟩|⟨v,w',o,D⟩
 ·exact .inl ⟨o,D.mono post⟩
 grind
def WV:aC PP II where
 f:=31
 spec X args H i _:=jK X 100000 args H λb H'=>X.ak (rM (H'.get 0)) (match b with
  |[.agg [.ab nw 3 f,.ab ng 1 g,.int M a,.int M fl,.str nu,.str de,.int M top],.agg cs]=>X.ak (aI 3 nw f&&aI 1 ng g) (X.ak (eU ⟨nw,bG f,ng,λj=>bV (g j) 0,a,fl,nu,de,top⟩) (match iV cs with
   |some x=>X.ak (bB x) (i (.bK [.bool (jA ⟨nw,bG f,ng,λj=>bV (g j) 0,a,fl,nu,de,top⟩ x),.bool (gk ⟨nw,bG f,ng,λj=>bV (g j) 0,a,fl,nu,de,top⟩ x),.int M 0]) H')
   |none=>X.fail))
  |_=>X.fail)
 ok X sem hX args H i kp h:=by
  obtain⟨b,H',c,k⟩:=gC hX _ _ _ _ h
  obtain⟨l,c⟩:=hX.ak _ _ c
  split at c
  ·rename_i nw f ng g a fl nu de top cs k
   obtain⟨k1,k2⟩:=hX.ak _ _ c
   obtain⟨m,d⟩:=hX.ak _ _ k2
   split at d
   ·rename_i x hx
    obtain⟨n,o⟩:=hX.ak _ _ d
    have e:=fK hx
    subst e
    simp only[bf]at k1
    have p:=(Uk (q:=⟨nw,bG f,ng,λj=>bV (g j) 0,a,fl,nu,de,top⟩) (x:=x) (s8 k1.1) (yP k1.2) m n).dq (args:=[.agg [.ab nw 3 f,.ab ng 1 g,.int M a,.int M fl,.str nu,.str de,.int M top],.agg (aF x)]) ⟨nQ k1.1 k1.2,⟨⟨rfl,rfl⟩,⟨rfl,rfl⟩,⟨rfl,rfl⟩,⟨rfl,rfl⟩,⟨rfl,rfl⟩,⟨rfl,rfl⟩,⟨rfl,rfl⟩,⟨rfl,rfl⟩,⟨rfl,rfl⟩,⟨rfl,rfl⟩,trivial⟩,trivial⟩
    exact⟨.ret _ H',o,(p.CC l (λ_=>rfl) λ_=>rfl).nI k⟩
   ·exact absurd d hX.fail
  ·exact absurd c hX.fail
def CE(q:Query)(x:ay)(d:Int)(i:Int):St:={t:=b_ [(0,.ab q.nw 3 (au q.C)),(1,.fn 152 [] [.ptr 13 0 0 0,.ptr 14 0 0 0]),(7,.int M (a_ q.nw)),(8,.int M i)],nt:=19,H:={n:=15,t:=b_ [(0,.cells [.ab 5 2 aA] .ro),(13,.cells (aF x) (.ty 48)),(14,.cells [.int M d] (.ty 3))]},df:=[]}
def WY:AH:={n:=15,t:=b_ [(0,.cells [.ab 5 2 aA] .ro)]}
def xT(b:Bool)(a:Int):GE:=.cond b (.one (.r {t:=b_ [(4,.int M a)],nt:=19,H:=WY,df:=[]})) (.one (.x 0 {t:=.e,nt:=19,H:=WY,df:=[]}))
def wJ(q)(x)(d)(b)(g)(i)(Q){e}(j:e=(B (aN M (i+1)) (zyI d (zyI x.t (zyI x.s (zyI x.v (zyI x.w (zyI x.o (zyI x.p (zyI x.d (zyI x.l (zyI x.h (zyI x.b (zyR 5 aA (zyI (a_ q.nw) (zyN q.nw (zyR q.nw (au q.C) (zyI (i+1) Q)))))))))))))))))){a}(k:a=(z (q.C i.toNat 1=q.C i.toNat 1))){c}(m:c=(z (q.C i.toNat 2=q.C i.toNat 2))){f}(n:f=(ah b (zyR 5 aA (aH i g True)) False)):(kr [jr] [] 129 2001 15 (CE q x d) (λ_=>xT b g) (λi=>i+1) Q i)=(ah (z (i<a_ q.nw)) (B (z (0<=i)&&z (i<a_ q.nw)) (ah (z (q.C i.toNat 1=0)) (B a (B c False)) (ah (z (q.C i.toNat 1=1)) (B a (B c (ah (!decide (gJ x (q.C i.toNat 0) d=q.C i.toNat 2)) f e))) (ah (z (q.C i.toNat 1=2)) (B a (B c (ah (!!decide (gJ x (q.C i.toNat 0) d=q.C i.toNat 2)) f e))) (ah (z (q.C i.toNat 1=3)) (B a (B c (ah (!decide (gJ x (q.C i.toNat 0) d<q.C i.toNat 2)) f e))) (ah (z (q.C i.toNat 1=4)) (B a (B c (ah (!decide (gJ x (q.C i.toNat 0) d>=q.C i.toNat 2)) f e))) False)))))) (ah b False (zyR 5 aA True))):=by subst_vars;kernel_rfl
def Nt(q)(x)(d)(b)(a)(Q):(ko [jr] [(2001,15,CE q x d 0,xT b a)] 103 [.agg (aY q),.agg (aF x),.int M d] Q)=(aE PP II false (aD II 129 2001) 15 (CE q x d 0) (xT b a)/\zyI d (zyI x.t (zyI x.s (zyI x.v (zyI x.w (zyI x.o (zyI x.p (zyI x.d (zyI x.l (zyI x.h (zyI x.b (zyR 5 aA (zyI (a_ q.nw) (zyN q.nw (zyR q.nw (au q.C) (ah b (ai.cells [g_ 5 2 aA] Access.ro=ai.cells [g_ 5 2 aA] Access.ro/\Q (m_ !decide (a>=0))) (ai.cells [g_ 5 2 aA] Access.ro=ai.cells [g_ 5 2 aA] Access.ro/\Q (m_ true)))))))))))))))))):=U
def gG(q:Query)(x:ay)(d:Int)(j:Nat):Bool:=Nn (q.C j 1) (gJ x (q.C j 0) d) (q.C j 2)
def dV(q:Query)(x:ay)(d:Int):Bool:=(h_ q.nw).all (gG q x d)
def xU(q:Query)(x:ay)(d:Int):Int:=match(h_ q.nw).find? λj=>!gG q x d j with|some j=>(j:Int)|none=>0
def Fh{p n j}(a:j<n)(b:∀k,k<j->p k=false)(c:p j=true):(h_ n).find? p=Option.some j:=by
 simp_all
def CF(q)(x)(d)(b)(a)(i)(j:Nat)(n:i=(j:Int))(hn:q.nw<=6)(t:j<q.nw)(u:1<=q.C j 1/\q.C j 1<=4)(Q)
  (hQ:gG q x d j=true->Q) (f:gG q x d j=false->b=true/\i=a):kr [jr] [] 129 2001 15 (CE q x d) (λ_=>xT b a) (λi=>i+1) Q i:=by
 rw[wJ _ _ _ _ _ _ _ A A A A]
 have r:n_ i=j:=O
 have w:a_ q.nw=(q.nw:Int):=rfl
 rw[r]
 unfold gG Nn at hQ f
 generalize q.C j 1=o at*
 generalize q.C j 2=N at*
 generalize gJ x (q.C j 0) d=v at*
 have c:aN M (i+1)=true:=aq O O
 have s:(z (0<=i)&&z (i<a_ q.nw))=true:=by simp only[bf,bn];omega
 have e:∀(p:Bool),(p=true->z ((o=1/\v=N)∨(o=2/\v≠N)∨(o=3/\v<N)∨(o=4/\N<=v))=false)->p=true->ah b (an 5 aA aA/\aH i a True) False:=λp g k=>by
  obtain⟨l,m⟩:=f (g k)
  rw[l]
  exact⟨aZ,Zf m trivial⟩
 refine Zg (λ_=>?_) O
 refine cC _ _ s ?_
 refine Zg O λ_=>?_
 refine Zg (λg=>?_) λg1=>Zg (λk=>?_) λg2=>Zg (λl=>?_) λg3=>Zg (λm=>?_) λg4=>O
 all_goals
  refine cC _ _ (bW A) (cC _ _ (bW A) (Zh (λh=>e _ (λh=>?_) h) λh=>cC _ _ c ?_))
 grind
 ·have:=hQ (by simp only[e_,bn]at h⊢;omega)
  exact zW
 grind
 ·have:=hQ (by simp only[Bool.not_eq_true',e_,bn,iK]at h⊢;omega)
  exact zW
 grind
 ·have:=hQ (by simp only[e_,bn]at h⊢;omega)
  exact zW
 grind
 ·have:=hQ (by simp only[e_,bn]at h⊢;omega)
  exact zW
def Fi(q)(x)(d)(e:eU q=true):aE PP II false (aD II 129 2001) 15 (CE q x d 0) (xT (!dV q x d) (xU q x d)):=by
 obtain⟨hn,f⟩:=fQ e
 have key:=aE.of (ι:=Nat) iw [jr] (bm PP II []) 1000 (c:=aD II 129 2001) (ir:=false) 15 (λj=>j<=q.nw/\∀k,k<j->gG q x d k=true) (λj=>CE q x d (j:Int)) (λ_=>xT (!dV q x d) (xU q x d)) (λj=>q.nw-j) (λj=>j+1) 0 A ⟨Nat.zero_le _,O⟩ λj b=>?_
 ·exact key
 obtain⟨l,m⟩:=b
 by_cases a:j<q.nw
 ·refine CF q x d (!dV q x d) (xU q x d) (j:Int) j A hn a (f j a).2.1 ((j+1<=q.nw/\∀k,k<j+1->gG q x d k=true)/\q.nw-(j+1)<q.nw-j/\(xT (!dV q x d) (xU q x d)).pick=(xT (!dV q x d) (xU q x d)).pick) (λh=>⟨⟨a,λk n=>?_⟩,O,rfl⟩) λh=>⟨?_,?_⟩
  grind
  ·have:dV q x d=false:=by
    unfold dV
    rw[List.all_eq_false]
    exact Y
   rw[this];rfl
  ·unfold xU
   rw[Fh a ZD (by rw[h];rfl)]
 ·have b:j=q.nw:=by omega
  have ht:dV q x d=true:=by
   unfold dV
   rw[List.all_eq_true]
   exact ZD
  rw[ht]
  have done:∀(i:Int)(Q:Prop),i=(q.nw:Int)->kr [jr] [] 129 2001 15 (CE q x d) (λ_=>xT (!true) (xU q x d)) (λi=>i+1) Q i:=λi Q g=>by
   rw[wJ _ _ _ _ _ _ _ A A A A]
   have o:a_ q.nw=(q.nw:Int):=rfl
   refine Zg O λ_=>?_
   exact⟨aZ,trivial⟩
  exact done (j:Int) _ O
def CG{q x d}(a:eU q=true):af PP II 103 [.agg (aY q),.agg (aF x),.int M d] HO (.ret (.bool (dV q x d)) HO):=by
 refine CB (ks:=[jr]) (T:=[(2001,15,CE q x d 0,xT (!dV q x d) (xU q x d))]) (λσ=>rfl) ?_
 rw[Nt]
 refine⟨Fi q x d a,?_⟩
 have b:xU q x d>=0:=by
  unfold xU
  split<;>omega
 repeat' (first|exact aZ|exact bC _ _|refine Zf A ?_|refine YG A ?_|refine And.intro ?_ ?_)
 cases dV q x d with
 |true=>exact⟨rfl,rfl⟩
 |false=>exact⟨rfl,by rw[bW b];rfl⟩
def yU:aC PP II where
 f:=103
 spec X args H k _:=jK X 100000 args H λb H'=>X.ak (rM (H'.get 0)) (match b with
  |[.agg [.ab nw 3 f,.ab ng 1 g,.int M a,.int M fl,.str nu,.str de,.int M top],.agg cs,.int M d]=>X.ak (aI 3 nw f&&aI 1 ng g) (X.ak (eU ⟨nw,bG f,ng,λj=>bV (g j) 0,a,fl,nu,de,top⟩) (match iV cs with
   |some x=>k (.bool (dV ⟨nw,bG f,ng,λj=>bV (g j) 0,a,fl,nu,de,top⟩ x d)) H'
   |none=>X.fail))
  |_=>X.fail)
 ok X sem hX args H k kp h:=by
  obtain⟨b,H',c,l⟩:=gC hX _ _ _ _ h
  obtain⟨m,c⟩:=hX.ak _ _ c
  split at c
  ·rename_i nw f ng g a fl nu de top cs d l
   obtain⟨k1,k2⟩:=hX.ak _ _ c
   obtain⟨n,i⟩:=hX.ak _ _ k2
   split at i
   ·rename_i x hx
    have e:=fK hx
    subst e
    simp only[bf]at k1
    have o:=(CG (q:=⟨nw,bG f,ng,λj=>bV (g j) 0,a,fl,nu,de,top⟩) (x:=x) (d:=d) n).dq (args:=[.agg [.ab nw 3 f,.ab ng 1 g,.int M a,.int M fl,.str nu,.str de,.int M top],.agg (aF x),.int M d]) ⟨nQ k1.1 k1.2,⟨⟨rfl,rfl⟩,⟨rfl,rfl⟩,⟨rfl,rfl⟩,⟨rfl,rfl⟩,⟨rfl,rfl⟩,⟨rfl,rfl⟩,⟨rfl,rfl⟩,⟨rfl,rfl⟩,⟨rfl,rfl⟩,⟨rfl,rfl⟩,trivial⟩,⟨rfl,rfl⟩,trivial⟩
    exact⟨.ret _ H',i,(o.CC m (λ_=>rfl) λ_=>rfl).nI l⟩
   ·exact absurd i hX.fail
  ·exact absurd c hX.fail
def CH(q)(x)(d)(Q){b}(f:b=(ai.cells [g_ 5 2 aA] Access.ro=ai.cells [g_ 5 2 aA] Access.ro/\Q (o_ [m_ false,c_ M 190]))){c}(g:c=(eU {nw:=q.nw,C:=bG (au q.C),ng:=q.ng,G:=λj=>q.G j,a:=q.a,fl:=q.fl,nu:=q.nu,de:=q.de,top:=q.top})){e}(i:e=(aI 3 q.nw (au q.C)&&aI 1 q.ng (aR q.G))):(ko [lQ,nL,yU] [] 43 [.agg (aY q),.agg (aF x),.int M d] Q)=(B e (B c (ah (!bB x) b (ah (z (d>=x.l)) (ah (!decide (d<=x.h)) b (B e (B c (ai.cells [g_ 5 2 aA] Access.ro=ai.cells [g_ 5 2 aA] Access.ro/\Q (o_ [m_ (dV {nw:=q.nw,C:=bG (au q.C),ng:=q.ng,G:=λj=>q.G j,a:=q.a,fl:=q.fl,nu:=q.nu,de:=q.de,top:=q.top} x d),c_ M 0]))))) b)))):=by subst_vars;kernel_rfl
def toQ:List AV->Option Query
 |[.ab nw 3 f,.ab ng 1 g,.int M a,.int M fl,.str nu,.str de,.int M top]=>Option.some ⟨nw,bG f,ng,λj=>bV (g j) 0,a,fl,nu,de,top⟩
 |_=>Option.none
def oA:List AV->Bool
 |[.ab nw 3 f,.ab ng 1 g,.int M _,.int M _,.str _,.str _,.int M _]=>aI 3 nw f&&aI 1 ng g
 |_=>false
def toQ_le{cs q}(h:toQ cs=Option.some q)(k:oA cs=true):k_ (λl=>l) (.agg cs) (.agg (aY q)):=by
 unfold toQ at h
 split at h
 ·cases h
  simp only[oA,bf]at k
  exact nQ k.1 k.2
 ·cases h
def uY(x):k_ (λl=>l) (.agg (aF x)) (.agg (aF x)):=⟨⟨rfl,rfl⟩,⟨rfl,rfl⟩,⟨rfl,rfl⟩,⟨rfl,rfl⟩,⟨rfl,rfl⟩,⟨rfl,rfl⟩,⟨rfl,rfl⟩,⟨rfl,rfl⟩,⟨rfl,rfl⟩,⟨rfl,rfl⟩,trivial⟩
def xG(x:ay)(d:Int):Bool:=z (d>=x.l)&&z (d<=x.h)
def tZ{q x d}(b:aI 3 q.nw (au q.C)=true)(c:aI 1 q.ng (aR q.G)=true)(e:eU q=true)(hx:bB x=true):
  af PP II 43 [.agg (aY q),.agg (aF x),.int M d] HO (.ret (.bK [.bool (xG x d&&dV q x d),.int M (match xG x d with|true=>0|false=>190)]) HO):=by
 refine CB (ks:=[lQ,nL,yU]) (T:=[]) (λσ=>⟨rfl,⟨rfl,rfl⟩,trivial⟩) ?_
 rw[CH _ _ _ _ A A A,b,c,show eU _=true from(oH q).trans e,hx]
 refine cC _ _ A (cC _ _ A ?_)
 show ah (z (d>=x.l)) _ _
 refine Zh (λh=>Zh (λa=>?_) λa=>?_) λh=>?_
 ·have a:z (d<=x.h)=false:=by simpa using a
  unfold xG;grind
 ·have a:z (d<=x.h)=true:=by simpa using a
  unfold xG;rw[h,a]
  exact cC _ _ A (cC _ _ A ⟨rfl,rfl⟩)
 ·unfold xG;grind
def af.nT{P I f x y a b d i H o}(h:af P I f [b,d,i] H o)(k1:k_ (λl=>l) x b)(k2:k_ (λl=>l) y d)(j:k_ (λl=>l) a i):af P I f [x,y,a] H o :=
 λc ρ w vs hG m q=>h c ρ w vs hG (aU.tQ (show bt.le _ [x,y,a] [b,d,i]from⟨k1,k2,j,trivial⟩) m) q
def af.dA{P I f x y a b H o}(h:af P I f [a,b] H o)(k1:k_ (λl=>l) x a)(k2:k_ (λl=>l) y b):af P I f [x,y] H o :=
 λc ρ w vs hG d i=>h c ρ w vs hG (aU.tQ (show bt.le _ [x,y] [a,b]from⟨k1,k2,trivial⟩) d) i
def rN{cs q}(h:toQ cs=Option.some q)(k:oA cs=true):aI 3 q.nw (au q.C)=true/\aI 1 q.ng (aR q.G)=true:=by
 unfold toQ at h
 split at h
 ·cases h
  simp only[oA,bf]at k
  exact⟨s8 k.1,yP k.2⟩
 ·cases h
def aC.CC(f:FuncId)(spec:{R:Type}->RI R->List AV->(AV->R)->R)
  (ok:∀{R:Type}(X:RI R)(sem:R->Prop),X.Ok sem->∀args c,sem (spec X args c)->∃a,sem (c a)/\(∀σ,a.bD σ=a)/\(∀σ,bt.bD σ args=args)/\af PP II f args HO (.ret a HO)):aC PP II where
 f:=f
 spec X args H c _:=jK X 100000 args H λb H'=>X.ak (rM (H'.get 0)) (spec X b λa=>c a H')
 ok X sem hX args H c kp h:=by
  obtain⟨b,H',d,i⟩:=gC hX _ _ _ _ h
  obtain⟨j,d⟩:=hX.ak _ _ d
  obtain⟨a,k1,k2,l,m⟩:=ok X sem hX _ _ d
  exact⟨.ret a H',k1,(m.CC j l k2).nI i⟩
def nU{cs q}(h:toQ cs=Option.some q)(σ):AV.bD σ (.agg cs)= .agg cs:=by
 unfold toQ at h
 split at h
 ·rfl
 ·cases h
def mg:aC PP II:=aC.CC 43
 (λX args c=>match args with
  |[.agg cs,.agg ds,.int M d]=>match toQ cs,iV ds with
   |some q,some x=>X.ak (oA cs&&eU q&&bB x) (c (.bK [.bool (xG x d&&dV q x d),.int M (match xG x d with|true=>0|false=>190)]))
   |_,_=>X.fail
  |_=>X.fail)
 λX sem hX args c h=>by
  split at h
  ·split at h
   ·rename_i q x b hx
    obtain⟨a,e⟩:=hX.ak _ _ h
    simp only[bf]at a
    cases fK hx
    obtain⟨r1,f⟩:=rN b a.1.1
    refine⟨_,e,λ_=>rfl,λσ=>?_,af.nT (tZ r1 f a.1.2 a.2) (toQ_le b a.1.1) (uY x) ⟨rfl,rfl⟩⟩
    show [AV.bD σ (.agg _),_,_]=_
    rw[nU b];rfl
   ·exact zR
  ·exact zR
def CI(q:Query)(x:ay)(K:Nat->Int)(i:Int):St:={t:=b_ [(3,.ptr 13 0 0 0),(6,.own 14 i.toNat 1),(18,.ab q.ng 1 (aR q.G)),(19,.int M (a_ q.ng)),(20,.int M i)],nt:=32,H:={n:=15,t:=b_ [(0,.cells [.ab 5 2 aA] .ro),(13,.cells (aF x) (.ty 48)),(14,.rows i.toNat 1 (ae K) (.ty 3))]},df:=[]}
def xV(n:Nat)(K:Nat->Int):GE:=.one (.x 0 {t:=b_ [(6,.own 14 n 1)],nt:=32,H:={n:=15,t:=b_ [(0,.cells [.ab 5 2 aA] .ro),(14,.rows n 1 (ae K) (.ty 3))]},df:=[]})
def CJ(q)(x)(K)(i)(Q):(kr [jr] [] 30 5001 14 (CI q x K) (λ_=>xV q.ng K) (λi=>i+1) Q i)=(ah (z (i<a_ q.ng)) (B (z (0<=i)&&z (i<a_ q.ng)) (B (z (i.toNat<=i.toNat)&&true&&true&&z ((i.toNat+1)*8<=140737488355328)&&true) (B (aN M (i+1)) (ax (i.toNat+1) (n_ (i+1)) (an (i.toNat+1) (λa=>bif i_ a i.toNat then ae K a else p_ 1 (q_ (0+(a-i.toNat)*1) [c_ M (gJ x (q.G i.toNat) 0)])) (ae K)/\zyI x.t (zyI x.s (zyI x.v (zyI x.w (zyI x.o (zyI x.p (zyI x.d (zyI x.l (zyI x.h (zyI x.b (zyR 5 aA (zyI (a_ q.ng) (zyI (i+1) (zyN q.ng (zyR q.ng (aR q.G) (ax (i.toNat+1) (n_ (i+1)) Q)))))))))))))))))))) (ax i.toNat q.ng (zyR i.toNat (ae K) (zyR 5 aA (ax i.toNat q.ng True))))):=U
def Um(q)(x)(K)(Q):(ko [lQ,nL] [(5001,14,CI q x K 0,xV q.ng K)] 30 [.agg (aY q),.agg (aF x)] Q)=(B (aI 3 q.nw (au q.C)&&aI 1 q.ng (aR q.G)) (B (eU {nw:=q.nw,C:=bG (au q.C),ng:=q.ng,G:=λj=>q.G j,a:=q.a,fl:=q.fl,nu:=q.nu,de:=q.de,top:=q.top}) (ah (!bB x) (ai.cells [g_ 5 2 aA] Access.ro=ai.cells [g_ 5 2 aA] Access.ro/\Q (o_ [AV.aw,c_ M 190])) (aE PP II false (aD II 30 5001) 14 (CI q x K 0) (xV q.ng K)/\zyI x.t (zyI x.s (zyI x.v (zyI x.w (zyI x.o (zyI x.p (zyI x.d (zyI x.l (zyI x.h (zyI x.b (zyR 5 aA (zyI (a_ q.ng) (zyN q.ng (zyR q.ng (aR q.G) (B ((r_ (List.range.loop q.ng []) λi=>true)&&z (q.ng<=q.ng)) (ai.cells [g_ 5 2 aA] Access.ro=ai.cells [g_ 5 2 aA] Access.ro/\Q (o_ [g_ q.ng 1 (ae K),c_ M 0])))))))))))))))))))):=U
def ON(x:ay):List AV:=[.int M x.t,.int M x.s,.int M x.v,.int M x.w,.int M x.o,.int M x.p,.int M x.d,.int M x.l,.int M x.h,.int M x.b,.str [49],.str [49]]
def eD(F:Nat->ay)(j:Nat):List AV:=ON (F j)
def OQ:aC PP II:=aC.pure 131
 (λX args a=>match args with
  |[.str [49]]=>a (.bK [.int M 1,.nilIface])
  |_=>X.fail)
 λX sem hX args a h=>by
  split at h
  ·exact⟨_,h,λ_=>rfl,λ_=>rfl,P7 (s:=[49]) (by decide+kernel) zC⟩
  ·exact zR
def RO(Q:AV->Prop):(kp [OQ,YF] [] 117 [.agg [.str [49],.str [49]]] Q)=(Q (c_ M (1:Int))):=U
def Vp(n:Nat)(F:Nat->ay)(m:Int->Nat)(i:Int):St:={t:=b_ [(1,.fn 173 [] []),(4,.own 12 (m i) 10),(9,.ab n 12 (eD F)),(10,.int M (a_ n)),(11,.int M i)],nt:=30,H:={n:=13,t:=b_ [(12,.rows (m i) 10 (λj=>aF (F j)) (.ty 48))]},df:=[]}
def Vq(n:Nat)(F:Nat->ay):GE:=.one (.x 0 {t:=b_ [(4,.own 12 n 10)],nt:=30,H:={n:=13,t:=b_ [(12,.rows n 10 (λj=>aF (F j)) (.ty 48))]},df:=[]})
def R4(n:Nat)(F:Nat->ay)(m:Int->Nat)(i:Int)(Q:Prop):(kr [] [] 172 2001 12 (Vp n F m) (λ_=>Vq n F) (λi=>i+1) Q i)=(ah (z (i<a_ n)) (B (z (0<=i)&&z (i<a_ n)) (B (z (m i<=m i)&&true&&true&&z ((m i+1)*80<=140737488355328)&&true) (B (aN M (i+1)) (ax (m i+1) (m (i+1)) ((an (m i+1) (λa=>bif i_ a (m i)then aF (F a)else p_ 10 (q_ (0+(a-m i)*10) [c_ M (ay.t (F i.toNat)),c_ M (ay.s (F i.toNat)),c_ M (ay.v (F i.toNat)),c_ M (ay.w (F i.toNat)),c_ M (ay.o (F i.toNat)),c_ M (ay.p (F i.toNat)),c_ M (ay.d (F i.toNat)),c_ M (ay.l (F i.toNat)),c_ M (ay.h (F i.toNat)),c_ M (ay.b (F i.toNat))])) λj=>aF (F j))/\zyI (i+1) (zyN n (zyR n (eD F) (ax (m i+1) (m (i+1)) (zyI (a_ n) Q))))))))) (ax (m i) n ((an (m i) (λj=>aF (F j)) λj=>aF (F j))/\ax (m i) n True))):=U
def VG(n:Nat)(F:Nat->ay)(m:Int->Nat)(Q:AV->Prop):(kb [] [(2001,12,Vp n F m 0,Vq n F)] 118 [.ab n 12 (eD F)] Q)=(aE PP II false (aD II 172 2001) 12 (Vp n F m 0) (Vq n F)/\ax (m 0) 0 (zyN n (zyR n (eD F) (ax (m 0) 0 (zyI (a_ n) (B ((r_ (h_ n) λi=>bt.free (aF (F i)))&&z (n<=n)) (Q (g_ n 10 λj=>aF (F j))))))))):=U
def EL{ι:Type}(n0 l:Nat)(J:ι->Prop)(S:ι->St)(E:ι->aQ)(a:ι->Nat)(i:ι):aQ->Prop
 | .g b s=>b=l/\∃j,J j/\a j<a i/\St.Le n0 s (S j)/\E j=E i
 |e=>aQ.Le n0 e (E i)
def Ay{P:Program}{I:ba}{ι:Type}{n0 l:Nat}{J:ι->Prop}{S:ι->St}{E:ι->aQ}{K:ι->Nat}{r c:Code}{ir:Bool}(u:I.G<=n0)(L:findLabel c l=Option.some r)
  (k:∀i,J i->∃e,ew P I ir (.code r) (S i) e/\EL n0 l J S E K i e):
  ∀m i,J i->K i<m->∀ro n f ρ a w,(ir=false->ro=Option.none)->f.G=I.G->(∀l,f.E l->l<n0)->cA f ρ (S i) a w->fG (WF ro) n P (.inScope r c) ((E i).kx n0 f ρ) a w:=by
 intro m
 induction m with
 |zero=>omega
 |succ m N=>
  intro i Q hi ro n f ρ a w o hG q R
  obtain⟨e,T,t⟩:=k i Q
  refine iR ?_
  have U:r.wpIn (WF ro) n P (e.post f ρ) a w:=T ro n f ρ a w o hG R
  refine wpIn_mono U λx a1 V d=>?_
  have h:f.G<=n0:=by rw[hG];exact u
  cases e with
  |n s=>
   cases x with
   |normal=>exact aQ.jk t h q (aQ.ji d)
   |_=>exact d.elim
  |x i s=>
   cases x with
   |exit id=>exact aQ.jk t h q (aQ.ji d)
   |_=>exact d.elim
  |g b s=>
   cases x with
   |goto id=>
    obtain⟨rfl,W,hx,y⟩:=d
    obtain⟨rfl,j,C,Z,D,F⟩:=t
    obtain⟨H,X,Y⟩:=y.view D h q
    have:=N j C O ro n f H a1 V o hG q Y
    rw[F]at this
    simp only[mC,L]
    exact this.mono λx a w d=>aQ.ja ((iU.of hx).trans X) d
   |_=>exact d.elim
  |r s=>
   cases x with
   |ret=>exact aQ.jk t h q (aQ.ji d)
   |_=>exact d.elim
  |p v s=>simp only[EL,aQ.Le]at t
def Ck{P I ι s l J S E}(j){r c ir}{i:ι}(b:I.G<=s.H.n)(o:findLabel c l=Option.some r)(p:J i)(start:St.Le s.H.n s (S i))
  (d:∀i,J i->∃e,ew P I ir (.code r) (S i) e/\EL s.H.n l J S E j i e):ew P I ir (.inScope r c) s (E i):=by
 intro ro n k ρ a w f hG g
 have m:∀l,k.E l->l<s.H.n:=λl hl=>(g.heap.env l hl).1
 obtain⟨h,q,t⟩:=g.view start (by rw[hG];exact b) m
 have:=Ay b o d (j i+1) i p (Nat.lt_succ_self _) ro n k h a w f hG m t
 exact this.mono λx a w u=>aQ.nG g.heap A (aQ.ja q u)
def SH{ι:Type}(n0 l:Nat)(S:ι->St)(E:ι->GE)(a:ι->ι)(Q:Prop)(i:ι):KS Prop :=
 {n:=λs=>(E i).meets n0 (.n s)
  x:=λb s=>(E i).meets n0 (.x b s)
  g:=λb s=>B (Nat.beq b l) (mF n0 s (S (a i)) Q)
  r:=λs=>(E i).meets n0 (.r s)
  p:=λ_ _=>False}
def nJ.of{P I}(hI:I.Ok P)(ks:List (aC P I)){t}(o:eR P I id t)(fuel){ι r c ir}(n0 l:Nat)(J:ι->Prop)(S)(E)(j:ι->Nat)(d)(i0)
  (u:Nat.ble I.G n0=true) (v:findLabel c l=Option.some r) (w:J i0)
  (m:∀i,J i->uA ks t fuel ir (.code r) (S i) (SH n0 l S E d (J (d i)/\j (d i)<j i/\(E (d i)).pick=(E i).pick) i)):nJ P I ir r c n0 (S i0) (E i0) where
 h s0 q y:=by
  subst q
  refine Ck (S:=S) (E:=λi=>(E i).pick) (J:=J) (l:=l) j ZD v w y λi hi=>?_
  obtain⟨e,f,C⟩:=nH hI ks o fuel ir _ _ _ (m i hi)
  refine⟨e,C,?_⟩
  cases e with
  |n s=>exact GE.fg (g:=E i) f
  |x b s=>exact GE.fg (g:=E i) f
  |g b s=>
   obtain⟨H,f⟩:=Zk f
   obtain⟨k1,k2,D,F⟩:=mF.ok (K:=J (d i)/\j (d i)<j i/\(E (d i)).pick=(E i).pick) f
   exact⟨ZD,d i,k2,D,k1,F⟩
  |r s=>exact GE.fg (g:=E i) f
  |p a s=>assumption
def jM:Code->Option Code
 | .seq a b=>match jM a with|some c=>Option.some c|none=>jM b
 | .cond _ a b=>match jM a with|some c=>Option.some c|none=>jM b
 | .block _ c=>jM c
 | .loop c=>jM c
 | .scope c=>Option.some c
 |_=>Option.none
def Az(I:ba)(f:FuncId):Code:=match I.body f with
 |some (c,_,_)=>match jM c with|some c=>c|none=> .skip
 |none=> .skip
def AA(I:ba)(f:FuncId)(l:Nat):Code:=match findLabel (Az I f) l with|some r=>r|none=> .skip
abbrev YU{ι:Type}(ks:List (aC PP II))(T:lI)(f l n0:Nat)(S:ι->St)(E:ι->GE)(a:ι->ι)(Q:Prop)(i:ι):Prop :=
 uA ks (mG PP II T) 1000 false (.code (AA II f l)) (S i) (SH n0 l S E a Q i)
structure FP where
 a:Nat
 b:Nat
 c:Nat
 d:Nat
 s:Int
def EM(p:FP):St:={t:=b_ [(2,.ptr 12 0 0 0),(3,.ptr 13 0 0 0),(5,.int M p.s)],nt:=74,H:={n:=27,t:=b_ [(6,.cells dz (.ex 20)),(12,.cells [.str (bu p.a),.str (bu p.b)] (.ty 30)),(13,.cells [.str (bu p.c),.str (bu p.d)] (.ty 30))]},df:=[]}
def EN(r:Int):GE:=.one (.r {t:=b_ [(4,.int M r)],nt:=74,H:={n:=27,t:=b_ [(6,.cells dz (.ex 20))]},df:=[]})
def IP(a b c d)(s r)(h)(Q){g}(i:g=(ah (f_ (bu (ao (bu a)%ao (bu b))) [48]) (B (aN M (0-s)) (aH (0-s) r True)) (ah (f_ (bu (ao (bu c)%ao (bu d))) [48]) (aH s r True) (B (aN M (0-s)) (B (z (bu d=bu d)) (bI (bu d) (bu (h {a:=a,b:=b,c:=c,d:=d,s:=s}).c) (bI (bu (ao (bu c)%ao (bu d))) (bu (h {a:=a,b:=b,c:=c,d:=d,s:=s}).d) (bI (bu b) (bu (h {a:=a,b:=b,c:=c,d:=d,s:=s}).a) (bI (bu (ao (bu a)%ao (bu b))) (bu (h {a:=a,b:=b,c:=c,d:=d,s:=s}).b) (aH (0-s) (h {a:=a,b:=b,c:=c,d:=d,s:=s}).s Q)))))))))){e}(j:e=(bu (ao (bu a)/ao (bu b)))){f}(k:f=(bu (ao (bu c)/ao (bu d)))):(YU [Me,Aw] [] 17 0 27 EM (λ_=>EN r) h Q ⟨a,b,c,d,s⟩)=(B (isNat (bu a)&&isNat (bu b)&&i_ 0 (ao (bu b))) (B (isNat (bu c)&&isNat (bu d)&&i_ 0 (ao (bu d))) (B (isNat e&&isNat f) (ah (!decide (dU (ao e) (ao f)=0)) (B (aN M (s*dU (ao e) (ao f))) (aH (s*dU (ao e) (ao f)) r True)) (ah (f_ (bu (ao (bu a)%ao (bu b))) [48]) (ah (f_ (bu (ao (bu c)%ao (bu d))) [48]) (aH 0 r True) g) g))))):=by subst_vars;kernel_rfl
def Qa(a b c d)(r)(p)(Q){g}(h:g=(ah (f_ (bu (ao (bu a)%ao (bu b))) [48]) (B (aN M (-1:Int)) (Q (c_ M (-1:Int)))) (ah (f_ (bu (ao (bu c)%ao (bu d))) [48]) (Q (c_ M 1)) (B (aN M (-1:Int)) (B (z (bu d=bu d)) (nJ PP II false (AA II 17 0) (Az II 17) 27 (EM p) (EN r)/\bI (bu d) (bu p.c) (bI (bu (ao (bu c)%ao (bu d))) (bu p.d) (bI (bu b) (bu p.a) (bI (bu (ao (bu a)%ao (bu b))) (bu p.b) (aH (-1:Int) p.s (Q (c_ M r)))))))))))){e}(i:e=(bu (ao (bu a)/ao (bu b)))){f}(j:f=(bu (ao (bu c)/ao (bu d)))):(kp [yM,Me,Aw] [(500000,27,EM p,EN r)] 17 [.agg [.str (bu a),.str (bu b)],.agg [.str (bu c),.str (bu d)]] Q)=(B (bJ (bu a) (bu b)) (B (bJ (bu c) (bu d)) (B (isNat (bu a)&&isNat (bu b)&&i_ 0 (ao (bu b))) (B (isNat (bu c)&&isNat (bu d)&&i_ 0 (ao (bu d))) (B (isNat e&&isNat f) (ah (!decide (dU (ao e) (ao f)=0)) (B (aN M (1*dU (ao e) (ao f))) (Q (c_ M (1*dU (ao e) (ao f))))) (ah (f_ (bu (ao (bu a)%ao (bu b))) [48]) (ah (f_ (bu (ao (bu c)%ao (bu d))) [48]) (Q (c_ M 0)) g) g))))))):=by subst_vars;kernel_rfl
end
end Go.Sx
