/- Lemmas, part 33. -/
import Derived.Test.YtoijalagmmgkbaaGreatDoorX32
set_option linter.all false
set_option linter.defProp false
section
set_option maxRecDepth 1000000
namespace Go.Sx
open Go
theorem Oe{W:Nat->Nat}{b:Nat}:∀{n},(∀j,j<n->W j<=b)->pM W n<=b*n
 |0,_=>dw _
 |n+1,h=>by
  have:=Oe (W:=W) (b:=b) (n:=n) λj a=>h j O
  have:=h n O
  show pM W n+W n<=_
  rw[Nat.mul_add];omega
theorem K4{n:Nat}(h:n<9223372036854775808):isNat (bu n)=true:=dc (jL h)
end Go.Sx
end
section
set_option maxRecDepth 1000000
namespace Go.Sx
open Go
theorem af.W5{P I f args a H0 H m}(h:af P I f args H0 (.ret a H0))(hn:H0.n=m)(v:I.G<=m)(y:m<=H.n)(d:∀i,m<=i->H0.get i= .dead)
  (o:∀i,i<m->H0.get i≠ .dead->H.get i=H0.get i/\∀σ,(∀j,j<m->σ j=j)->(H0.get i).bD σ=H0.get i) (b:∀σ,bt.bD σ args=args) (ha:∀σ,a.bD σ=a):
  af P I f args H (.ret a H):=by
 intro c ρ w vs hG B s
 let σ:Nat->Nat:=λl=>if l<m then l else H.n+(l-m)
 have t:∀i,i<m->σ i=i:=λi hi=>Y
 have q:∀i,H0.get i≠ .dead->i<m:=Y
 have u:∀l,H0.get l≠ .dead->H.get (σ l)=(H0.get l).bD σ:=Y
 have C:Sub I.G σ H0 H :=
  {lt:=λl hl=>by grind
   ge:=λl hl=>by
    grind
   same:=u
   inj:=Y
   fp:=λg D=>Y
   low:=ZD}
 have ht:Eb σ H0 (CO.ret a H0).heap H H :=
  {n:=by show H.n=H.n+(H0.n-H0.n);omega
   old:=u
   new:=λl hl=>by
    rw[hn]at hl
    have :¬ l<m:=Nat.not_lt.2 hl
    show H.get (σ l)=(H0.get l).bD σ
    rw[d l hl]
    simp only[σ,if_neg this]
    rw[s.low _ O]
    rfl
   rest:=λ_ _ _=>rfl}
 have:=h.lift C ht
 rw[b]at this
 have e:(CO.ret a H0).iT σ H= .ret a H:=by
  show CO.ret (a.bD σ) H=_
  rw[ha]
 rw[e]at this
 exact this c ρ w vs hG B s
noncomputable def Hm:AH:={n:=14,t:=Tr.ofList [(0,.cells [.ab 5 2 aA] .ro),(1,.cells [.str [48],.str [49]] .ro),(2,.cells [.int .i64 7,.int .i64 9,.int .i64 11,.int .i64 99] .ro),(3,.cells [.map (some 13)] .ro),(6,.cells dz (.ex 20)),(9,.cells [.str [48],.str [49]] .ro),(10,.cells [.str [49],.str [49]] .ro),(13,.map OZ)]}
open Classical in
noncomputable def FY(c d e f g h a b:eT):Bool:=decide (c=Hm.get 0/\d=Hm.get 1/\e=Hm.get 2/\f=Hm.get 3/\g=Hm.get 6/\h=Hm.get 9/\a=Hm.get 10/\b=Hm.get 13)
noncomputable def ye(H:AH):Bool:=Nat.ble 14 H.n&&FY (H.get 0) (H.get 1) (H.get 2) (H.get 3) (H.get 6) (H.get 9) (H.get 10) (H.get 13)
open Classical in
theorem Bl{e f g h i j a b:eT}(k:e=Hm.get 0)(l:f=Hm.get 1)(m:g=Hm.get 2)(n:h=Hm.get 3)(o:i=Hm.get 6)(p:j=Hm.get 9)(c:a=Hm.get 10)(d:b=Hm.get 13):FY e f g h i j a b=true:=by
 unfold FY
 exact bW ⟨k,l,m,n,o,p,c,d⟩
theorem FZ(i):Hm.get i=if i=13 then Hm.get 13 else if i=10 then Hm.get 10 else if i=9 then Hm.get 9 else if i=6 then Hm.get 6 else if i=3 then Hm.get 3 else if i=2 then Hm.get 2 else if i=1 then Hm.get 1 else if i=0 then Hm.get 0 else .dead:=by
 repeat' split
 all_goals first
  |(rename_i h;rw[h];done)
  |skip
 unfold Hm
 simp only[AH.get,Tr.ofList,Tr.bH,Tr.qV]
 simp[*]
theorem sh{P:Nat->eT->Prop}(c:P 0 (Hm.get 0))(d:P 1 (Hm.get 1))(e:P 2 (Hm.get 2))(f:P 3 (Hm.get 3))(g:P 6 (Hm.get 6))(h:P 9 (Hm.get 9))(a:P 10 (Hm.get 10))(b:P 13 (Hm.get 13))(j:∀i,P i .dead)(i):P i (Hm.get i):=by
 rw[FZ]
 grind
open Classical in
theorem Hv{H:AH}(h:ye H=true):14<=H.n/\∀i,Hm.get i≠ .dead->H.get i=Hm.get i:=by
 unfold ye FY at h
 simp only[bf,bn]at h
 obtain⟨d,f,k1,g,j,k,l,a,c⟩:=h
 refine⟨jX d,λi=>?_⟩
 exact sh (P:=λi b=>b≠ .dead->H.get i=b) (λ_=>f) (λ_=>k1) (λ_=>g) (λ_=>j) (λ_=>k) (λ_=>l) (λ_=>a) (λ_=>c) (λi e=>absurd A e) i
theorem UT(σ)(i):bt.le σ (aA i) (aA i):=by
 unfold aA
 split
 ·exact⟨rfl,trivial,trivial⟩
 all_goals exact⟨rfl,⟨rfl,trivial,trivial⟩,trivial⟩
theorem W6(σ)(h:σ 13=13)(l):(Hm.get l).le σ (Hm.get l):=
 sh (P:=λ_ b=>b.le σ b) ⟨⟨⟨rfl,rfl,λi _=>UT _ i⟩,trivial⟩,trivial⟩ ⟨⟨rfl,rfl,trivial⟩,trivial⟩ ⟨⟨⟨rfl,rfl⟩,⟨rfl,rfl⟩,⟨rfl,rfl⟩,⟨rfl,rfl⟩,trivial⟩,trivial⟩ ⟨⟨h.symm,trivial⟩,trivial⟩ ⟨pz _,rfl⟩ ⟨⟨rfl,rfl,trivial⟩,trivial⟩ ⟨⟨rfl,rfl,trivial⟩,trivial⟩
   ⟨rfl,⟨⟨rfl,rfl⟩,⟨rfl,rfl⟩,⟨rfl,rfl⟩,⟨rfl,rfl⟩,⟨rfl,rfl⟩,trivial⟩,⟨⟨⟨rfl,trivial,trivial⟩,trivial⟩,⟨⟨rfl,trivial,trivial⟩,trivial⟩,⟨⟨rfl,trivial,trivial⟩,trivial⟩,⟨⟨rfl,trivial,trivial⟩,trivial⟩,⟨⟨rfl,trivial,trivial⟩,trivial⟩,trivial⟩⟩ (λ_=>trivial) l
theorem tA{H}(h:ye H=true):im Hm.n [] H Hm:=by
 obtain⟨k2,d⟩:=Hv h
 refine im.of A A A (by rfl) (kV k2) (gS.2 λl hl=>?_)
 have hl:l<14:=hl
 have a:∀j,j<14->sig Hm.n [] H.n j=j:=λj e=>by
  unfold sig
  rw[show Nat.blt j Hm.n=true from(Nat.blt_eq ..).mpr e];rfl
 have c:∀b:eT,(b≠ .dead->H.get l=b)->b.le (sig Hm.n [] H.n) b->tO (sig Hm.n [] H.n) H.n l H b:=λb f g=>by
  unfold tO
  grind
 exact c _ (d l) (W6 _ (a 13 O) l)
noncomputable abbrev Xm(ks:List (aC PP II))(T:lI)(f:FuncId)(args:List AV)(Q:AV->Prop):Prop :=
 jE ks (mG PP II T) 1000 f args Hm (λa H=>qC RI.jY 100000 a H λa' H2=>aa (ye H2) (Q a')) (λ_ _=>False)
theorem VV{ks T f args a'}(h:Xm ks T f args (λa=> ∀σ,AV.le σ a a')):af PP II f args Hm (.ret a' Hm):=by
 obtain⟨o,b,c⟩:=fJ Hs ks (bm PP II T) 1000 f args Hm _ _ h
 cases o with
 |ret a H1=>
  obtain⟨x,H2,k1,k2⟩:=lm RI.dJ _ _ _ _ b
  obtain⟨k0,k1⟩:=Zk k1
  have k1:∀σ,AV.le σ x a':=k1
  exact(c.vW k2).le (ky.of [] (tA k0) (k1 _))
 |qt a H1=>exact b.elim
theorem af.J0{f args a H}(h:af PP II f args Hm (.ret a Hm))(j:ye H=true)(ha:∀σ,a.bD σ=a)(c:∀σ,bt.bD σ args=args):af PP II f args H (.ret a H):=by
 obtain⟨k2,l⟩:=Hv j
 refine h.W5 (m:=14) A zC k2 (λi hi=>?_) (λi hi o=>⟨l i o,λσ d=>?_⟩) c ha
 ·rw[FZ,if_neg O,if_neg O,if_neg O,if_neg O,if_neg O,if_neg O,if_neg O,if_neg O]
 ·have Jh:=d 13 O
  refine sh (P:=λ_ b=>b.bD σ=b) A A A ?_ ?_ A A A (λ_=>rfl) i
  ·show eT.cells [.map (some (σ 13))] .ro=_
   rw[Jh];rfl
  rfl
noncomputable def aC.J0(f:FuncId)(spec:{R:Type}->RI R->List AV->(AV->R)->R)
  (ok:∀{R:Type}(X:RI R)(sem:R->Prop),X.Ok sem->∀args c,sem (spec X args c)->∃a,sem (c a)/\(∀σ,a.bD σ=a)/\(∀σ,bt.bD σ args=args)/\af PP II f args Hm (.ret a Hm)):aC PP II where
 f:=f
 spec X args H c _:=jK X 100000 args H λb H'=>X.bq (ye H') (spec X b λa=>c a H')
 ok X sem hX args H c kp h:=by
  obtain⟨b,H',d,i⟩:=gC hX _ _ _ _ h
  obtain⟨j,d⟩:=hX.bq _ _ d
  obtain⟨a,k1,k2,l,m⟩:=ok X sem hX _ _ d
  exact⟨.ret a H',k1,(m.J0 j k2 l).nI i⟩
end Go.Sx
end
section
set_option maxRecDepth 1000000
namespace Go.Sx
open Go
noncomputable def hS(q:Query)(n:Nat)(a:List (Nat×eT)):AH:={n:=n,t:=Tr.ofList ([(0,.cells [.ab 5 2 aA] .ro),(1,.cells [.str [48],.str [49]] .ro),(2,.cells [.int .i64 7,.int .i64 9,.int .i64 11,.int .i64 99] .ro),(3,.cells [.map (some 13)] .ro),(6,.cells dz (.ex 20)),(9,.cells [.str [48],.str [49]] .ro),(10,.cells [.str [49],.str [49]] .ro),(13,.map OZ),(14,.cells (aY q) (.ty 32))]++a)}
noncomputable def Oi(q:Query):aC PP II:=aC.s9 41
 (λX args c=>match args with
  |[.agg cs,.ab k 3 r]=>X.bq (qT q cs&&ct q&&decide (q.a=1)&&On k r&&bX k (ka r)&&bX k (iF r)) (c (.qP [.agg [.str (bu (aP (iG r) k)),.str [49]],.agg [.str (bu k),.str [49]]]))
  |_=>X.fail)
 λX sem hX args c h=>by
  split at h
  ·rename_i cs k r
   obtain⟨d,e⟩:=hX.bq _ _ h
   simp only[bf,bn]at d
   obtain⟨⟨⟨⟨⟨a1,a2⟩,a0⟩,f⟩,g⟩,i⟩:=d
   obtain⟨r1,j,l⟩:=FX a2
   obtain⟨l1,l2⟩:=mi a1
   refine⟨_,e,λ_=>rfl,λσ=>?_,?_⟩
   ·show [AV.bD σ (.agg _),_]=_
    rw[l2];rfl
   ·have b:=af.dA (Jt r1 j l g i) l1 (Rf f)
    unfold CW at b
    rw[zu a0,zK a0]at b
    exact b
  ·exact zR
open Classical in
noncomputable def J6(q:Query)(a:Nat)(X:Nat->bj)(k:Nat)(f:Nat->List AV):Bool:=decide ((aV q (bP f) k).length=a/\og q (aV q (bP f) k)=X)
open Classical in
theorem FW{q:Query}{a:Nat}{X:Nat->bj}{k:Nat}{f:Nat->List AV}:J6 q a X k f=true↔(aV q (bP f) k).length=a/\og q (aV q (bP f) k)=X:=by
 unfold J6
 exact decide_eq_true_iff
noncomputable def J7(q:Query)(b:Nat)(X:Nat->bj):aC PP II:=aC.s9 40
 (λY1 args c=>match args with
  |[.agg cs,.ab k 10 f]=>Y1.bq (qT q cs&&ct q&&Nat.ble k 1000000&&Ik k f&&J6 q b X k f) (c (.ab b 1 (qN q.ng X)))
  |_=>Y1.fail)
 λY1 sem hX args c h=>by
  split at h
  ·rename_i cs k f
   obtain⟨d,e⟩:=hX.bq _ _ h
   simp only[bf]at d
   obtain⟨⟨⟨⟨a1,a2⟩,j⟩,a⟩,l⟩:=d
   obtain⟨l1,l2⟩:=mi a1
   unfold Ik at a
   simp only[bf]at a
   obtain⟨m,n⟩:=FW.1 l
   have g:=af.dA (JP a2 (jX j) λi hi=>List.all_eq_true.1 a.2 i (List.mem_range.2 hi)) l1 (fq a.1)
   refine⟨_,e,λ_=>rfl,λσ=>?_,?_⟩
   ·show [AV.bD σ (.agg _),_]=_
    rw[l2];rfl
   ·rw[<-m,<-n];exact g
  ·exact zR
end Go.Sx
end
section
set_option maxRecDepth 1000000
namespace Go.Sx
open Go
def r8(q:Query)(k:Nat)(F:Nat->ay):Nat:=ju q (aV q F k).length (yc q (og q (aV q F k)))
def FM(q:Query)(k:Nat)(F:Nat->ay)(j:Nat):Nat->Int:=dK (og q (aV q F k)) (cS q (aV q F k).length (yc q (og q (aV q F k))) j)
def oU(q:Query)(k:Nat)(F:Nat->ay)(j:Nat):Nat->List UInt8:=jC q (og q (aV q F k)) (cS q (aV q F k).length (yc q (og q (aV q F k))) j)
def Q5(q:Query)(k:Nat)(F:Nat->ay):AV:=.qP [.ab (r8 q k F) 9 (aX q.ng (FM q k F) (oU q k F)),.int .i64 0]
theorem Q6(q:Query)(k:Nat)(F:Nat->ay):N9 q (aV q F k).length (og q (aV q F k))=Q5 q k F:=rfl
theorem A8{q:Query}{k:Nat}{F:Nat->ay}(hq:ct q=true)(a:cX k F=true):af PP II 13 [.agg (aY q),vo k F] HR (.ret (Q5 q k F) HR):=by
 rw[<-Q6]
 exact UA hq a
end Go.Sx
end
section
set_option maxRecDepth 1000000
namespace Go.Sx
open Go
noncomputable def UB(n:Nat)(W V:Nat->Int)(i:Int):St:={t:=Tr.ofList [(0,.ab n 1 (ae W)),(1,.ab n 1 (ae V)),(5,.int .i64 i)],nt:=26,H:=AH.blank 12,df:=[]}
noncomputable def UC(b:Bool):GE:=.cond b (.one (.x 0 {t:=.e,nt:=26,H:=AH.blank 12,df:=[]})) (.one (.r {t:=Tr.ofList [(4,.bool false)],nt:=26,H:=AH.blank 12,df:=[]}))
theorem FN(n:Nat)(W V:Nat->Int)(b:Bool)(i:Int)(Q:Prop):(kr [] [] 16 4004 12 (UB n W V) (λ_=>UC b) (λi=>i+1) Q i)=(ah (decide (i<Int.ofNat n)) (aa (decide (0<=i)&&decide (i<Int.ofNat n)) (aa (decide (0<=i)&&decide (i<Int.ofNat n)) (ah (!decide (W i.toNat=V i.toNat)) (ah b False (false=false/\True)) (aa (aN .i64 (i+1)) (zyN n (zyR n (ae V) (zyI (i+1) (zyN n (zyR n (ae W) Q))))))))) (ah b True False)):=U
theorem Oc(n:Nat)(W V:Nat->Int)(b:Bool)(Q:AV->Prop):(kb [] [(4004,12,UB n W V 0,UC b)] 16 [.ab n 1 (ae W),.ab n 1 (ae V)] Q)=(ah (!decide (Int.ofNat n=Int.ofNat n)) (Q (AV.bool false)) (eu PP II false (aD II 16 4004) 12 (UB n W V 0) (UC b)/\zyN n (zyR n (ae V) (zyN n (zyR n (ae W) (ah b (Q (AV.bool true)) (Q (AV.bool false)))))))):=U
def FO(a b c d e f:Int):ay:=⟨av a 40,av (Int.tdiv a 40) 3,av b 3,av (Int.tdiv b 3) 3,av c 4,av (Int.tdiv c 4) 4-1,Int.tdiv (av a 40) 10,av d 40,av d 40+av e 12,av f 40⟩
theorem UD(a b c d e f:Int)(Q:AV->Prop):(kb [gF] [] 37 [.agg [.int .i64 a,.int .i64 b,.int .i64 c,.int .i64 d,.int .i64 e,.int .i64 f]] Q)=(aa (aN .i64 a&&true) (aa (decide (a=a)) (aa (aN .i64 (Int.tdiv a 40)) (aa (aN .i64 (Int.tdiv a 40)&&true) (aa (decide (b=b)) (aa (decide (b=b)) (aa (aN .i64 b&&true) (aa (decide (b=b)) (aa (decide (b=b)) (aa (decide (b=b)) (aa (aN .i64 (Int.tdiv b 3)) (aa (aN .i64 (Int.tdiv b 3)&&true) (aa (decide (c=c)) (aa (decide (c=c)) (aa (decide (c=c)) (aa (decide (c=c)) (aa (aN .i64 c&&true) (aa (decide (c=c)) (aa (decide (c=c)) (aa (decide (c=c)) (aa (decide (c=c)) (aa (decide (c=c)) (aa (aN .i64 (Int.tdiv c 4)) (aa (aN .i64 (Int.tdiv c 4)&&true) (aa (aN .i64 (av (Int.tdiv c 4) 4-1)) (aa (decide (d=d)) (aa (decide (d=d)) (aa (decide (d=d)) (aa (decide (d=d)) (aa (decide (d=d)) (aa (decide (d=d)) (aa (aN .i64 d&&true) (aa (decide (f=f)) (aa (decide (f=f)) (aa (decide (f=f)) (aa (decide (f=f)) (aa (decide (f=f)) (aa (decide (f=f)) (aa (decide (f=f)) (aa (aN .i64 f&&true) (aa (aN .i64 (Int.tdiv (av a 40) 10)) (aa (aN .i64 e&&true) (aa (decide (av d 40=av d 40)) (aa (aN .i64 (av d 40+av e 12)) (Q (AV.agg [AV.int .i64 (av a 40),AV.int .i64 (av (Int.tdiv a 40) 3),AV.int .i64 (av b 3),AV.int .i64 (av (Int.tdiv b 3) 3),AV.int .i64 (av c 4),AV.int .i64 (av (Int.tdiv c 4) 4-1),AV.int .i64 (Int.tdiv (av a 40) 10),AV.int .i64 (av d 40),AV.int .i64 (av d 40+av e 12),AV.int .i64 (av f 40)])))))))))))))))))))))))))))))))))))))))))))))):=U
end Go.Sx
end
section
set_option maxRecDepth 1000000
namespace Go.Sx
open Go
def A9(n:Nat)(W V:Nat->Int):Bool:=(List.range n).all λi=>decide (W i=V i)
theorem FQ(n)(W V)(hn:n<=1000000):eu PP II false (aD II 16 4004) 12 (UB n W V 0) (UC (A9 n W V)):=by
 have key:=eu.of (ι:=Nat) Hs [] (bm PP II []) 1000 (c:=aD II 16 4004) (ir:=false) 12 (λj=>j<=n/\∀k,k<j->W k=V k) (λj=>UB n W V (j:Int)) (λ_=>UC (A9 n W V)) (λj=>n-j) (λj=>j+1) 0 A ⟨Nat.zero_le _,O⟩ λj b=>?_
 ·exact key
 obtain⟨b,d⟩:=b
 have go:∀(i:Int)(Q:Prop),i=(j:Int)->(j<n->W j=V j->Q)->kr [] [] 16 4004 12 (UB n W V) (λ_=>UC (A9 n W V)) (λj=>j+1) Q i:=λi Q hi hQ=>by
  rw[FN]
  have g:Int.ofNat n=(n:Int):=rfl
  have e1:Int.toNat i=j:=O
  rw[e1]
  refine Zg (λh=>?_) λh=>?_
  ·have ha:(decide (0<=i)&&decide (i<Int.ofNat n))=true:=by simp only[bf,bn];omega
   refine cC _ _ ha (cC _ _ ha (Zl (λe=>?_) λe=>?_))
   ·have:A9 n W V=false:=by unfold A9;rw[List.all_eq_false];exact Y
    rw[this];exact⟨rfl,trivial⟩
   ·exact cC _ _ (aq O O) (YG A ⟨bL _ _,Zf A (YG A ⟨bL _ _,hQ O e⟩)⟩)
  ·have:A9 n W V=true:=List.all_eq_true.2 λk f=>bW (d k (by have:=List.mem_range.1 f;omega))
   rw[this];trivial
 exact go (j:Int) _ A λa e=>⟨⟨a,λk f=>by by_cases h:k=j;exact h▸e;exact d k O⟩,O,rfl⟩
theorem Od{n W V}(hn:n<=1000000):af PP II 16 [.ab n 1 (ae W),.ab n 1 (ae V)] (AH.blank 12) (.ret (.bool (A9 n W V)) (AH.blank 12)):=by
 refine bY (ks:=[]) (T:=[(4004,12,UB n W V 0,UC (A9 n W V))]) (λ_=>rfl) ?_
 rw[Oc]
 refine wA A ⟨FQ n W V hn,YG A ⟨bL _ _,YG A ⟨bL _ _,?_⟩⟩⟩
 cases A9 n W V<;>rfl
noncomputable def FR:aC PP II:=aC.pure 16
 (λX args a=>match args with
  |[.ab n 1 f,.ab m 1 g]=>X.bq (bA n f&&bA m g&&Nat.ble n 1000000&&Nat.beq n m) (a (.bool (A9 n (aM f) (aM g))))
  |_=>X.fail)
 λX sem hX args a h=>by
  split at h
  ·obtain⟨b,c⟩:=hX.bq _ _ h
   simp only[bf]at b
   obtain⟨⟨⟨a1,a2⟩,e⟩,d⟩:=b
   cases dE d
   exact⟨_,c,λ_=>rfl,λ_=>rfl,af.dA (Od ZD) (cy a1) (cy a2)⟩
  ·exact zR
theorem UH{a b c d e f}(ha:aN .i64 a=true)(g:aN .i64 b=true)(h:aN .i64 c=true)(i:aN .i64 d=true)(j:aN .i64 e=true)(k:aN .i64 f=true):
  af PP II 37 [.agg [.int .i64 a,.int .i64 b,.int .i64 c,.int .i64 d,.int .i64 e,.int .i64 f]] (AH.blank 12) (.ret (.agg (eD (FO a b c d e f))) (AH.blank 12)):=by
 refine bY (ks:=[gF]) (T:=[]) (λσ=>cL σ _) ?_
 rw[UD]
 have q:=cj (c:=Int.tdiv c 4) (n:=4) O
 have r:=cj (c:=a) (n:=40) O
 have s:=cj (c:=d) (n:=40) O
 have t:=cj (c:=e) (n:=12) O
 have l:aN .i64 (av (Int.tdiv c 4) 4-1)=true:=aq O O
 have m:aN .i64 (Int.tdiv (av a 40) 10)=true:=mM (aq O O) O
 have o:aN .i64 (av d 40+av e 12)=true:=aq O O
 have t1:=mM ha (O:(0:Int)<40)
 have t2:=mM g (O:(0:Int)<3)
 have p:=mM h (O:(0:Int)<4)
 rw[ha,g,h,i,j,k,l,m,o,t1,t2,p]
 repeat' (first|exact A|refine cC _ _ A ?_|refine cC _ _ (bW A) ?_)
noncomputable def Dk:aC PP II:=aC.pure 37
 (λX args g=>match args with
  |[.agg [.int .i64 a,.int .i64 b,.int .i64 c,.int .i64 d,.int .i64 e,.int .i64 f]]=>X.bq (aN .i64 a&&aN .i64 b&&aN .i64 c&&aN .i64 d&&aN .i64 e&&aN .i64 f) (g (.agg (eD (FO a b c d e f))))
  |_=>X.fail)
 λX sem hX args g h=>by
  split at h
  ·obtain⟨i,j⟩:=hX.bq _ _ h
   simp only[bf]at i
   obtain⟨⟨⟨⟨⟨a1,a2⟩,k⟩,l⟩,m⟩,n⟩:=i
   exact⟨_,j,λ_=>rfl,λ_=>rfl,UH a1 a2 k l m n⟩
  ·exact zR
def intsIn(n:Nat)(g:Nat->List AV):Bool:=bA n g&&(List.range n).all λi=>aN .i64 (aM g i)
end Go.Sx
end
section
set_option maxRecDepth 1000000
namespace Go.Sx
open Go
def fm(X:Nat->Nat->Int)(j:Nat):List AV:=[.int .i64 (X j 0),.int .i64 (X j 1),.int .i64 (X j 2),.int .i64 (X j 3),.int .i64 (X j 4),.int .i64 (X j 5)]
noncomputable def YZ(n:Nat)(X:Nat->Nat->Int)(m:Int->Nat)(G:Int->Nat->ay)(i:Int):St:={t:=Tr.ofList [(0,.ab n 6 (fm X)),(3,.own 12 (m i) 10),(4,.int .i64 i)],nt:=94,H:={n:=13,t:=Tr.ofList [(12,.rows (m i) 10 (λj=>eD (G i j)) (.ty 48))]},df:=[]}
noncomputable def Ya(n:Nat)(X:Nat->Nat->Int)(i:Int):St:={t:=Tr.ofList [(0,.ab n 6 (fm X)),(3,.aw),(4,.int .i64 i)],nt:=94,H:=AH.blank 12,df:=[]}
noncomputable def FT(m:Nat)(G:Nat->ay):GE:=.one (.x 0 {t:=Tr.ofList [(3,.own 12 m 10)],nt:=94,H:={n:=13,t:=Tr.ofList [(12,.rows m 10 (λj=>eD (G j)) (.ty 48))]},df:=[]})
noncomputable def Ki(n:Nat)(X:Nat->Nat->Int)(m:Nat)(G:Nat->ay)(i:Int)(x:ay)(j:Int):St:={t:=Tr.ofList [(0,.ab n 6 (fm X)),(3,.own 12 m 10),(4,.int .i64 i),(5,.ptr 13 0 0 0),(6,.int .i64 j)],nt:=94,H:={n:=14,t:=Tr.ofList [(12,.rows m 10 (λj=>eD (G j)) (.ty 48)),(13,.cells (eD x) (.ty 48))]},df:=[]}
noncomputable def Of(n:Nat)(X:Nat->Nat->Int)(m:Nat)(G:Nat->ay)(i:Int)(x:ay)(a:Int):GE:=.one (.x 2 (Ki n X m G i x a))
theorem W1(n)(X)(m)(G)(i)(x)(a)(j)(Q):(kr [] [] 12 7034 14 (Ki n X m G i x) (λ_=>Of n X m G i x a) (λj=>j+1) Q j)=(let c:=(zyI x.t (zyI x.s (zyI x.v (zyI x.w (zyI x.o (zyI x.p (zyI x.d (zyI x.l (zyI x.h (zyI x.b (zyN m ((an m (λj=>eD (G j)) λj=>eD (G j))/\zyN m (zyN n (zyR n (fm X) (zyI i (aH j a True))))))))))))))));let e:=(aa (aN .i64 (j+1)) (zyI x.t (zyI x.s (zyI x.v (zyI x.w (zyI x.o (zyI x.p (zyI x.d (zyI x.l (zyI x.h (zyI x.b (zyN m ((an m (λj=>eD (G j)) λj=>eD (G j))/\zyN m (zyN n (zyR n (fm X) (zyI i (zyI (j+1) Q)))))))))))))))));(ah (decide (j<Int.ofNat m)) (aa (decide (0<=j)&&decide (j<Int.ofNat m)) (aa (decide (j.toNat<m)) (ah (decide (ay.t (G j.toNat)<x.t)) e (aa (decide (0<=j)&&decide (j<Int.ofNat m)) (aa (decide (j.toNat<m)) (ah (decide (ay.t (G j.toNat)=x.t)) (aa (decide (0<=j)&&decide (j<Int.ofNat m)) (aa (decide (j.toNat<m)) (ah (decide (ay.s (G j.toNat)<x.s)) e c))) c)))))) c)):=U
noncomputable def sF(n:Nat)(X:Nat->Nat->Int)(m:Int->Nat)(G:Int->Nat->ay)(p:Bool×Int):St:=match p.1 with
 |true=>YZ n X m G p.2
 |false=>Ya n X p.2
theorem Hk(n)(X)(m)(G)(x)(a)(c)(Z)(i)(Q):(kr (ι:=Bool×Int) [Dk] [(7034,14,Ki n X (m i) (G i) i x 0,Of n X (m i) (G i) i x a)] 12 3008 12 (sF n X m G) (λ_=>FT c Z) (λp=>(true,p.2+1)) Q (true,i))=(let g:=(aa (decide (0<=a)&&decide (a<=a)&&decide (a<=Int.ofNat (m i))&&decide (0<m i)) (aa (decide (0<=a)&&decide (a<=Int.ofNat (m i))&&decide (Int.ofNat (m i)<=Int.ofNat (m i))&&decide (0<m i)) (aa (decide (a.toNat+Int.toNat (Int.ofNat (m i)-a)<=m i)&&true&&decide ((1+Int.toNat (Int.ofNat (m i)-a))*80<=140737488355328)&&true) (ah (decide (Int.toNat (Int.ofNat (m i)-a)=0)) (aa (decide (0<=a)&&decide (a<=a)&&decide (a<=Int.ofNat (m i))&&decide (0<m i)) (aa (decide (Int.toNat (a-0)=Int.toNat (a-0))&&decide (some (Int.toNat (a-0))=some (Int.toNat (a-0)))&&true) (aa (decide (0+Int.toNat (a-0)<=m i)&&true&&true&&decide ((Int.toNat (a-0)+1)*80<=140737488355328)&&true) (ah (decide (Int.toNat (a-0)=Int.toNat (a-0))) (aa (aN .i64 (i+1)) (ax (Int.toNat (a-0)+1) (m (i+1)) ((an (Int.toNat (a-0)+1) (λe=>bif Nat.blt e (Int.toNat (a-0))then eD (G i (0+e))else List.take 10 (List.drop (0+(e-Int.toNat (a-0))*10) [AV.int .i64 x.t,AV.int .i64 x.s,AV.int .i64 x.v,AV.int .i64 x.w,AV.int .i64 x.o,AV.int .i64 x.p,AV.int .i64 x.d,AV.int .i64 x.l,AV.int .i64 x.h,AV.int .i64 x.b])) λj=>eD (G (i+1) j))/\ax (Int.toNat (a-0)+1) (m (i+1)) (zyN n (zyR n (fm X) (zyI (i+1) Q)))))) (aa (aN .i64 (i+1)) (ax (Int.toNat (a-0)+1) (m (i+1)) ((an (Int.toNat (a-0)+1) (λe=>bif Nat.blt e (Int.toNat (a-0))then eD (G i (0+e))else List.take 10 (List.drop (0+(e-Int.toNat (a-0))*10) [AV.int .i64 x.t,AV.int .i64 x.s,AV.int .i64 x.v,AV.int .i64 x.w,AV.int .i64 x.o,AV.int .i64 x.p,AV.int .i64 x.d,AV.int .i64 x.l,AV.int .i64 x.h,AV.int .i64 x.b])) λj=>eD (G (i+1) j))/\ax (Int.toNat (a-0)+1) (m (i+1)) (zyN n (zyR n (fm X) (zyI (i+1) Q)))))))))) (aa (decide (0<=a)&&decide (a<=a)&&decide (a<=Int.ofNat (m i))&&decide (0<m i)) (aa (decide (Int.toNat (a-0)=Int.toNat (a-0))&&decide (some (Int.toNat (a-0))=some (Int.toNat (a-0)))&&true) (aa (decide (0+Int.toNat (a-0)<=m i)&&decide (1+Int.toNat (Int.ofNat (m i)-a)<=1+Int.toNat (Int.ofNat (m i)-a))&&true&&decide ((Int.toNat (a-0)+(1+Int.toNat (Int.ofNat (m i)-a)))*80<=140737488355328)&&true) (ah (decide (1+Int.toNat (Int.ofNat (m i)-a)=0)) (aa (aN .i64 (i+1)) (ax (m (i+1)) 0 False)) (ah (decide (Int.toNat (a-0)=Int.toNat (a-0))) (aa (aN .i64 (i+1)) (ax (Int.toNat (a-0)+(1+Int.toNat (Int.ofNat (m i)-a))) (m (i+1)) ((an (Int.toNat (a-0)+(1+Int.toNat (Int.ofNat (m i)-a))) (λe=>bif Nat.blt e (Int.toNat (a-0))then eD (G i (0+e))else bif Nat.blt (e-Int.toNat (a-0)) 1 then List.take 10 (List.drop (0+(e-Int.toNat (a-0))*10) [AV.int .i64 x.t,AV.int .i64 x.s,AV.int .i64 x.v,AV.int .i64 x.w,AV.int .i64 x.o,AV.int .i64 x.p,AV.int .i64 x.d,AV.int .i64 x.l,AV.int .i64 x.h,AV.int .i64 x.b])else eD (G i (a.toNat+(e-Int.toNat (a-0)-1)))) λj=>eD (G (i+1) j))/\ax (Int.toNat (a-0)+(1+Int.toNat (Int.ofNat (m i)-a))) (m (i+1)) (zyN n (zyR n (fm X) (zyI (i+1) Q)))))) (aa (aN .i64 (i+1)) (ax (Int.toNat (a-0)+(1+Int.toNat (Int.ofNat (m i)-a))) (m (i+1)) ((an (Int.toNat (a-0)+(1+Int.toNat (Int.ofNat (m i)-a))) (λe=>bif Nat.blt e (Int.toNat (a-0))then eD (G i (0+e))else bif Nat.blt (e-Int.toNat (a-0)) 1 then List.take 10 (List.drop (0+(e-Int.toNat (a-0))*10) [AV.int .i64 x.t,AV.int .i64 x.s,AV.int .i64 x.v,AV.int .i64 x.w,AV.int .i64 x.o,AV.int .i64 x.p,AV.int .i64 x.d,AV.int .i64 x.l,AV.int .i64 x.h,AV.int .i64 x.b])else eD (G i (a.toNat+(e-Int.toNat (a-0)-1)))) λj=>eD (G (i+1) j))/\ax (Int.toNat (a-0)+(1+Int.toNat (Int.ofNat (m i)-a))) (m (i+1)) (zyN n (zyR n (fm X) (zyI (i+1) Q)))))))))))))));let f:=(FO (X i.toNat 0) (X i.toNat 1) (X i.toNat 2) (X i.toNat 3) (X i.toNat 4) (X i.toNat 5));let k:=(ax (m i) c ((an (m i) (λj=>eD (G i j)) λj=>eD (Z j))/\ax (m i) c True));let q:=(decide (0<=a)&&decide (a<Int.ofNat (m i)));(ah (decide (i<Int.ofNat n)) (ah (decide (i<24)) (aa (decide (0<=i)&&decide (i<Int.ofNat n)) (aa (aN .i64 (X i.toNat 0)&&aN .i64 (X i.toNat 1)&&aN .i64 (X i.toNat 2)&&aN .i64 (X i.toNat 3)&&aN .i64 (X i.toNat 4)&&aN .i64 (X i.toNat 5)) (eu PP II false (aD II 12 7034) 14 (Ki n X (m i) (G i) i x 0) (Of n X (m i) (G i) i x a)/\aH (ay.t f) x.t (aH (ay.s f) x.s (aH (ay.v f) x.v (aH (ay.w f) x.w (aH (ay.o f) x.o (aH (ay.p f) x.p (aH (ay.d f) x.d (aH (ay.l f) x.l (aH (ay.h f) x.h (aH (ay.b f) x.b (zyN (m i) ((an (m i) (λj=>eD (G i j)) λj=>eD (G i j))/\zyN (m i) (zyN n (zyR n (fm X) (zyI i (ah (decide (a<Int.ofNat (m i))) (aa q (aa (decide (a.toNat<m i)) (ah (decide (ay.t (G i a.toNat)=x.t)) (aa q (aa (decide (a.toNat<m i)) (ah (decide (ay.s (G i a.toNat)=x.s)) (aa (aN .i64 (i+1)) (ax (m i) (m (i+1)) ((an (m i) (λj=>eD (G i j)) λj=>eD (G (i+1) j))/\ax (m i) (m (i+1)) (zyN n (zyR n (fm X) (zyI (i+1) Q)))))) g))) g))) g)))))))))))))))))) k) k)):=U
theorem Dn(n)(X)(m)(G)(a)(Z)(i)(Q):(kr (ι:=Bool×Int) [Dk] [] 12 3008 12 (sF n X m G) (λ_=>FT a Z) (λp=>(true,p.2+1)) Q (false,i))=(let c:=(FO (X i.toNat 0) (X i.toNat 1) (X i.toNat 2) (X i.toNat 3) (X i.toNat 4) (X i.toNat 5));(ah (decide (i<Int.ofNat n)) (ah (decide (i<24)) (aa (decide (0<=i)&&decide (i<Int.ofNat n)) (aa (aN .i64 (X i.toNat 0)&&aN .i64 (X i.toNat 1)&&aN .i64 (X i.toNat 2)&&aN .i64 (X i.toNat 3)&&aN .i64 (X i.toNat 4)&&aN .i64 (X i.toNat 5)) (aa (aN .i64 (i+1)) (ax 10 (m (i+1)*10) ((an (m (i+1)) (fW [AV.int .i64 (ay.t c),AV.int .i64 (ay.s c),AV.int .i64 (ay.v c),AV.int .i64 (ay.w c),AV.int .i64 (ay.o c),AV.int .i64 (ay.p c),AV.int .i64 (ay.d c),AV.int .i64 (ay.l c),AV.int .i64 (ay.h c),AV.int .i64 (ay.b c)] 10) λj=>eD (G (i+1) j))/\ax 1 (m (i+1)) (zyN n (zyR n (fm X) (zyI (i+1) Q)))))))) (ax a 0 (ax a 0 True))) (ax a 0 (ax a 0 True)))):=U
theorem W2(n)(X)(m)(G)(a)(Z)(Q):(kb [] [(3008,12,sF n X m G (false,0),FT a Z)] 12 [.ab n 6 (fm X)] Q)=(eu PP II false (aD II 12 3008) 12 (sF n X m G (false,0)) (FT a Z)/\zyN n (zyR n (fm X) (aa ((List.all (List.range.loop a []) λi=>true)&&decide (a<=a)) (Q (AV.ab a 10 λj=>eD (Z j)))))):=U
end Go.Sx
end
section
set_option maxRecDepth 1000000
namespace Go.Sx
open Go
def JS(a b:ay):Bool:=decide (a.t<b.t)||(decide (a.t=b.t)&&decide (a.s<b.s))
def ku(x:ay)(G:Nat->ay)(m:Nat):Nat:=((List.range m).find? λk=>!JS (G k) x).getD m
theorem qO(x)(G)(m):ku x G m<=m/\(∀k,k<ku x G m->JS (G k) x=true)/\(ku x G m<m->JS (G (ku x G m)) x=false):=by
 unfold ku
 cases h:(List.range m).find? λk=>!JS (G k) x with
 |none=>
  grind
 |some j=>
  rw[List.find?_range_eq_some]at h
  grind
def oV(a b:ay):Bool:=decide (a.t=b.t)&&decide (a.s=b.s)
def Ba(a:Nat)(x:ay)(G:Nat->ay)(j:Nat):ay:=if j<a then G j else if j=a then x else G (j-1)
def xk(x:ay)(S:Nat×(Nat->ay)):Nat×(Nat->ay):=
 bif Nat.blt (ku x S.2 S.1) S.1&&oV (S.2 (ku x S.2 S.1)) x then S else(S.1+1,Ba (ku x S.2 S.1) x S.2)
def fU(X:Nat->Nat->Int)(i:Nat):ay:=FO (X i 0) (X i 1) (X i 2) (X i 3) (X i 4) (X i 5)
def gp(X:Nat->Nat->Int):Nat->Nat×(Nat->ay)
 |0=>(0,λ_=>⟨0,0,0,0,0,0,0,0,0,0⟩)
 |i+1=>xk (fU X i) (gp X i)
def Bb(x y:ay):Prop:=x.t<y.t∨(x.t=y.t/\x.s<y.s)
theorem Q8{a b}:JS a b=true↔Bb a b:=by
 unfold JS Bb
 simp
theorem Yk(x y):lr x y<0↔Bb x y:=by
 unfold lr Bb U9 sP
 omega
theorem zc{F}:∀k,(∀j,j+1<=k->Bb (F j) (F (j+1)))->fL F k=true
 |0,_=>rfl
 |k+1,h=>by
  show(!decide (lr (F (k+1)) (F k)<0)&&fL F k)=true
  rw[zc k λj a=>h j O,Bool.and_true,Bool.not_eq_true',iK,Yk]
  have:=h k (dw _)
  unfold Bb at this⊢
  omega
structure Good (m:Nat) (a:Nat->ay):Prop where
 val:∀k,k<m->bB (a k)=true
 ord:∀k,k+1<m->Bb (a k) (a (k+1))
theorem Good.UI{m G}(h:Good m G)(b:m<=400):cX m G=true:=by
 unfold cX
 rw[bW b,zc _ λj c=>h.ord j O,Bool.and_true,Bool.and_true]
 refine List.all_eq_true.2 λk a=>?_
 have a:=List.mem_range.1 a
 cases k with
 |zero=>unfold sQ;rw[h.val _ a];rfl
 |succ k=>
  show(bB (G (k+1))&& !decide (lr (G k) (G (k+1))>=0))=true
  rw[h.val _ a,Bool.true_and,Bool.not_eq_true',iK]
  have:=(Yk _ _).2 (h.ord k a)
  omega
theorem FU(X)(i):bB (fU X i)=true:=by
 have p0:=cj (c:=X i 0) (n:=40) O
 have a:=cj (c:=Int.tdiv (X i 0) 40) (n:=3) O
 have b:=cj (c:=X i 1) (n:=3) O
 have d:=cj (c:=Int.tdiv (X i 1) 3) (n:=3) O
 have e:=cj (c:=X i 2) (n:=4) O
 have f:=cj (c:=Int.tdiv (X i 2) 4) (n:=4) O
 have g:=cj (c:=X i 3) (n:=40) O
 have h:=cj (c:=X i 4) (n:=12) O
 have j:=cj (c:=X i 5) (n:=40) O
 unfold fU FO bB
 grind
theorem JT{x S}(hx:bB x=true)(h:Good S.1 S.2):Good (xk x S).1 (xk x S).2:=by
 obtain⟨g,d,b⟩:=qO x S.2 S.1
 unfold xk
 cases c:Nat.blt (ku x S.2 S.1) S.1&&oV (S.2 (ku x S.2 S.1)) x with
 |true=>exact h
 |false=>
  simp only[cond_false]
  generalize ku x S.2 S.1=a at*
  refine⟨λk e=>?_,λk e=>?_⟩
  ·simp only[Ba]
   split
   ·exact h.val k O
   ·split
    ·exact hx
    ·exact h.val _ O
  ·simp only[Ba]
   by_cases c1:k+1<a
   ·rw[if_pos O,if_pos c1];exact h.ord k O
   ·by_cases c2:k+1=a
    ·rw[if_pos O,if_neg c1,if_pos c2];exact Q8.1 (d k O)
    ·rw[if_neg O,if_neg c1,if_neg c2]
     by_cases c3:k=a
     ·rw[if_pos c3]
      have ha:a<S.1:=O
      have b:=b ha
      have f:Nat.blt a S.1=true:=by rw[Nat.blt_eq];exact ha
      rw[f,Bool.true_and]at c
      show Bb x (S.2 (k+1-1))
      rw[Nat.add_sub_cancel,c3]
      unfold JS at b
      unfold oV at c
      unfold Bb
      grind
     ·rw[if_neg c3]
      have:=h.ord (k-1) O
      grind
theorem zd(X):∀i,Good (gp X i).1 (gp X i).2
 |0=>⟨λk a=>by rfl,λk a=>absurd a (lZ _)⟩
 |i+1=>JT (FU X i) (zd X i)
theorem Bc(X):∀i,(gp X i).1<=i/\(gp X i).1<=(gp X (i+1)).1/\0<(gp X (i+1)).1
 |i=>by
  have a:∀i,(gp X i).1<=(gp X (i+1)).1/\(gp X (i+1)).1<=(gp X i).1+1/\0<(gp X (i+1)).1:=λi=>by
   show(gp X i).1<=(xk (fU X i) (gp X i)).1/\(xk (fU X i) (gp X i)).1<=(gp X i).1+1/\0<(xk (fU X i) (gp X i)).1
   unfold xk
   cases b:Nat.blt (ku (fU X i) (gp X i).2 (gp X i).1) (gp X i).1&&oV ((gp X i).2 (ku (fU X i) (gp X i).2 (gp X i).1)) (fU X i)with
   |true=>
    rw[bf,Nat.blt_eq]at b
    grind
   |false=>simp
  have le:∀i,(gp X i).1<=i:=λi=>by
   induction i with
   |zero=>exact dw _
   |succ i c=>have:=a i;omega
  grind
theorem u6(n)(X):an n (fm X) (fm X):=Zj λ_ _=>⟨⟨rfl,rfl⟩,⟨rfl,rfl⟩,⟨rfl,rfl⟩,⟨rfl,rfl⟩,⟨rfl,rfl⟩,⟨rfl,rfl⟩,trivial⟩
theorem Bd(m)(G:Nat->ay):an m (λj=>eD (G j)) λj=>eD (G j):=Zj λ_ _=>cL _ _
theorem Og(n)(X)(m)(G)(i)(x)(p:m<=1000):eu PP II false (aD II 12 7034) 14 (Ki n X m G i x 0) (Of n X m G i x (ku x G m:Nat)):=by
 obtain⟨r,l,f⟩:=qO x G m
 generalize ku x G m=a at*
 have key:=eu.of (ι:=Nat) Hs [] (bm PP II []) 1000 (c:=aD II 12 7034) (ir:=false) 14 (λj=>j<=a) (λj=>Ki n X m G i x (j:Int)) (λ_=>Of n X m G i x (a:Int)) (λj=>m-j) (λj=>j+1) 0 A (Nat.zero_le _) λj g=>?_
 ·exact key
 have g:j<=a:=g
 have go:∀(J:Int)(Q:Prop),J=(j:Int)->(j<a->j<m->Q)->kr [] [] 12 7034 14 (Ki n X m G i x) (λ_=>Of n X m G i x (a:Int)) (λj=>j+1) Q J:=λJ Q s hQ=>by
  rw[W1]
  have t:Int.ofNat m=(m:Int):=rfl
  have e1:Int.toNat J=j:=O
  rw[e1]
  have fr:=Bd m G
  have xr:=u6 n X
  have out:∀{Z:Prop},j=a->(J=(a:Int)->Z)->Z:=Y
  refine Zg (λh=>?_) λh=>?_
  ·have ha:(decide (0<=J)&&decide (J<Int.ofNat m))=true:=by simp only[bf,bn];omega
   have b:decide (j<m)=true:=Y
   refine cC _ _ ha (cC _ _ b (Zg (λd=>?_) λd=>cC _ _ ha (cC _ _ b (Zg (λk=>cC _ _ ha (cC _ _ b (Zg (λo=>?_) λo=>?_))) λk=>?_))))
   ·have:j<a:=by
     by_cases e:j=a
     ·have:=f O
      rw[<-e]at this
      unfold JS at this
      grind
     ·omega
    have q:=hQ this O
    refine cC _ _ (aq O O) ?_
    exact ZV
   ·have:j<a:=by
     by_cases e:j=a
     ·have:=f O
      rw[<-e]at this
      unfold JS at this
      grind
     ·omega
    have q:=hQ this O
    refine cC _ _ (aq O O) ?_
    exact ZV
   all_goals
    have e:J=(a:Int):=by
     by_cases e:j=a
     ·omega
     ·have:=l j O
      unfold JS at this
      grind
    exact ZJ
  ·have e:J=(a:Int):=by omega
   exact ZJ
 exact go (j:Int) _ A λd k=>⟨d,O,rfl⟩
end Go.Sx
end
section
set_option maxRecDepth 1000000
namespace Go.Sx
open Go
def mX(X:Nat->Nat->Int)(i:Int):Nat:=(gp X i.toNat).1
def gX(X:Nat->Nat->Int)(i:Int):Nat->ay:=(gp X i.toNat).2
def Yb(X:Nat->Nat->Int)(i:Nat):Bool:=aN .i64 (X i 0)&&aN .i64 (X i 1)&&aN .i64 (X i 2)&&aN .i64 (X i 3)&&aN .i64 (X i 4)&&aN .i64 (X i 5)
theorem Dp{m a}(x)(G)(b)(c:b<=m+1):an b (λi=>bif Nat.blt i a then eD (G (0+i))else bif Nat.blt (i-a) 1 then List.take 10 (List.drop (0+(i-a)*10) (eD x))else eD (G (a+(i-a-1)))) λj=>eD (Ba a x G j):=λi hi σ=>by
 show bt.le σ (bif Nat.blt i a then eD (G (0+i))else bif Nat.blt (i-a) 1 then List.take 10 (List.drop (0+(i-a)*10) (eD x))else eD (G (a+(i-a-1)))) (eD (Ba a x G i))
 unfold Ba
 by_cases h:i<a
 ·rw[eV h,if_pos h,cond_true,Nat.zero_add];exact cL _ _
 ·rw[js h,if_neg h,cond_false]
  by_cases e:i=a
  ·rw[eV O,if_pos e,cond_true,e,Nat.sub_self];exact cL _ _
  ·rw[js O,if_neg e,cond_false,show a+(i-a-1)=i-1 by omega];exact cL _ _
theorem JU{a}(x)(G):an (a+1) (λi=>bif Nat.blt i a then eD (G (0+i))else List.take 10 (List.drop (0+(i-a)*10) (eD x))) λj=>eD (Ba a x G j):=λi hi σ=>by
 show bt.le σ (bif Nat.blt i a then eD (G (0+i))else List.take 10 (List.drop (0+(i-a)*10) (eD x))) (eD (Ba a x G i))
 unfold Ba
 by_cases h:i<a
 ·rw[eV h,if_pos h,cond_true,Nat.zero_add];exact cL _ _
 ·rw[js h,if_neg h,cond_false,if_pos (O:i=a),show i-a=0 by omega];exact cL _ _
theorem Oh(n)(X)(b)(Z)(i)(k:Nat)(hi:i=(k:Int))(N:k<n)(F:k<24)(P:0<k)(hX:Yb X k=true)(Q)(hQ:Q):
  kr (ι:=Bool×Int) [Dk] [(7034,14,Ki n X (mX X i) (gX X i) i (fU X k) 0,Of n X (mX X i) (gX X i) i (fU X k) (ku (fU X k) (gX X i) (mX X i):Nat))] 12 3008 12 (sF n X (mX X) (gX X)) (λ_=>FT b Z) (λp=>(true,p.2+1)) Q (true,i):=by
 rw[Hk]
 have R:Int.ofNat n=(n:Int):=rfl
 have e1:Int.toNat i=k:=O
 have t:Int.toNat (i+1)=k+1:=O
 have u:mX X i=(gp X k).1:=by unfold mX;rw[e1]
 have v:gX X i=(gp X k).2:=by unfold gX;rw[e1]
 have f:mX X (i+1)=(xk (fU X k) (gp X k)).1:=by unfold mX;rw[t];rfl
 have g:gX X (i+1)=(xk (fU X k) (gp X k)).2:=by unfold gX;rw[t];rfl
 obtain⟨l1,_,_⟩:=Bc X k
 have w:0<(gp X k).1:=by
  obtain⟨j,rfl⟩:∃j,k=j+1:=⟨k-1,O⟩
  exact(Bc X j).2.2
 rw[e1,u,v,f,g]
 obtain⟨x,y,B⟩:=qO (fU X k) (gp X k).2 (gp X k).1
 have l:=Og n X (gp X k).1 (gp X k).2 i (fU X k) O
 unfold xk
 clear u v f g
 revert l1 w x y B l
 obtain⟨m,G⟩:=gp X k
 show m<=k->0<m->ku (fU X k) G m<=m->(∀j,j<ku (fU X k) G m->JS (G j) (fU X k)=true)->(ku (fU X k) G m<m->JS (G (ku (fU X k) G m)) (fU X k)=false)->eu PP II false (aD II 12 7034) 14 (Ki n X m G i (fU X k) 0) (Of n X m G i (fU X k) (ku (fU X k) G m:Nat))->_
 dsimp only
 generalize ku (fU X k) G m=a
 intro l1 w x y B l
 have S:Int.ofNat m=(m:Int):=rfl
 have fr:=Bd m G
 have xr:=u6 n X
 have c:aN .i64 (i+1)=true:=aq O O
 have d:(decide (0<=(a:Int))&&decide ((a:Int)<=(a:Int))&&decide ((a:Int)<=Int.ofNat m)&&decide (0<m))=true:=by simp only[bf,bn];omega
 have o:(decide (0<=(a:Int))&&decide ((a:Int)<=Int.ofNat m)&&decide (Int.ofNat m<=Int.ofNat m)&&decide (0<m))=true:=by simp only[bf,bn];omega
 have t1:Int.toNat (a:Int)=a:=O
 have t2:Int.toNat (Int.ofNat m-(a:Int))=m-a:=O
 have H:Int.toNat ((a:Int)-0)=a:=O
 rw[t1,t2,H]
 have q:(decide (a+(m-a)<=m)&&true&&decide ((1+(m-a))*80<=140737488355328)&&true)=true:=by simp only[bf,bn,and_true];omega
 have e:a+(1+(m-a))=m+1:=O
 have r:(decide (a=a)&&decide (some a=some a)&&true)=true:=zA
 have I:(decide (0+a<=m)&&true&&true&&decide ((a+1)*80<=140737488355328)&&true)=true:=by simp only[bf,bn,and_true];omega
 have C:(decide (0+a<=m)&&decide (1+(m-a)<=1+(m-a))&&true&&decide ((a+(1+(m-a)))*80<=140737488355328)&&true)=true:=by simp only[bf,bn,and_true];omega
 have J:FO (X k 0) (X k 1) (X k 2) (X k 3) (X k 4) (X k 5)=fU X k:=rfl
 rw[J]
 have s:(aN .i64 (X k 0)&&aN .i64 (X k 1)&&aN .i64 (X k 2)&&aN .i64 (X k 3)&&aN .i64 (X k 4)&&aN .i64 (X k 5))=true:=hX
 have ha:(decide (0<=i)&&decide (i<Int.ofNat n))=true:=by simp only[bf,bn];omega
 refine Zg (λ_=>Zg (λ_=>cC _ _ ha (cC _ _ s ⟨l,?_⟩)) O) O
 repeat' (with_reducible first|refine Zf A ?_|refine YG A ?_|refine And.intro ?_ ?_|exact fr|exact xr)
 refine Zg (λh=>?_) λh=>?_
 ·have D:(decide (0<=(a:Int))&&decide ((a:Int)<Int.ofNat m))=true:=by simp only[bf,bn];omega
  have E:decide (a<m)=true:=Y
  refine cC _ _ D (cC _ _ E (Zg (λK=>cC _ _ D (cC _ _ E (Zg (λL=>?_) λL=>?_))) λK=>?_))
  ·rw[show(Nat.blt a m&&oV (G a) (fU X k))=true by rw[eV (O:a<m)];unfold oV;grind,cond_true]
   refine cC _ _ c ?_
   repeat' (first|exact hQ|with_reducible refine Zf A ?_|with_reducible refine YG A ?_|with_reducible refine And.intro ?_ ?_|omega|omega)
  ·rw[show(Nat.blt a m&&oV (G a) (fU X k))=false by unfold oV;grind,cond_false]
   refine cC _ _ d (cC _ _ o (cC _ _ q (Zg O λ_=>?_)))
   refine cC _ _ d (cC _ _ r (cC _ _ C (Zg O λ_=>Zg (λ_=>cC _ _ c ?_) λh=>absurd A h)))
   exact YG e ⟨Dp _ _ _ (Nat.le_of_eq e),YG e (YG A ⟨xr,Zf A hQ⟩)⟩
  ·rw[show(Nat.blt a m&&oV (G a) (fU X k))=false by unfold oV;grind,cond_false]
   refine cC _ _ d (cC _ _ o (cC _ _ q (Zg O λ_=>?_)))
   refine cC _ _ d (cC _ _ r (cC _ _ C (Zg O λ_=>Zg (λ_=>cC _ _ c ?_) λh=>absurd A h)))
   exact YG e ⟨Dp _ _ _ (Nat.le_of_eq e),YG e (YG A ⟨xr,Zf A hQ⟩)⟩
 ·have:a=m:=by omega
  subst this
  rw[show(Nat.blt a a&&oV (G a) (fU X k))=false by simp,cond_false]
  refine cC _ _ d (cC _ _ o (cC _ _ q (Zg (λ_=>?_) O)))
  refine cC _ _ d (cC _ _ r (cC _ _ I (Zg (λ_=>cC _ _ c ?_) λh=>absurd A h)))
  exact YG A ⟨JU _ _,YG A (YG A ⟨xr,Zf A hQ⟩)⟩
theorem UJ(n)(X)(x)(a)(i)(k:Nat)(hi:i=(k:Int))(b :¬ (k<n/\k<24))(Q):
  kr (ι:=Bool×Int) [Dk] [(7034,14,Ki n X (mX X i) (gX X i) i x 0,Of n X (mX X i) (gX X i) i x a)] 12 3008 12 (sF n X (mX X) (gX X)) (λ_=>FT (mX X i) (gX X i)) (λp=>(true,p.2+1)) Q (true,i):=by
 rw[Hk]
 have c:Int.ofNat n=(n:Int):=rfl
 have fr:=Bd (mX X i) (gX X i)
 have fin:ax (mX X i) (mX X i) ((an (mX X i) (λj=>eD (gX X i j)) λj=>eD (gX X i j))/\ax (mX X i) (mX X i) True):=YG A ⟨fr,YG A trivial⟩
 exact Zg (λh=>Zg O λ_=>fin) λ_=>fin
theorem JV(n)(X)(a)(Z)(i)(hi:i=0)(hn:0<n)(hX:Yb X 0=true)(Q)(hQ:Q):
  kr (ι:=Bool×Int) [Dk] [] 12 3008 12 (sF n X (mX X) (gX X)) (λ_=>FT a Z) (λp=>(true,p.2+1)) Q (false,i):=by
 rw[Dn]
 subst hi
 have d:Int.ofNat n=(n:Int):=rfl
 have xr:=u6 n X
 have e1:Int.toNat 0=0:=rfl
 rw[e1]
 have b:(aN .i64 (X 0 0)&&aN .i64 (X 0 1)&&aN .i64 (X 0 2)&&aN .i64 (X 0 3)&&aN .i64 (X 0 4)&&aN .i64 (X 0 5))=true:=hX
 have c:mX X (0+1)=1:=rfl
 have ha:(decide ((0:Int)<=0)&&decide (0<Int.ofNat n))=true:=by simp only[bf,bn];omega
 rw[c]
 refine Zg (λ_=>Zg (λ_=>cC _ _ ha (cC _ _ b (cC _ _ A (YG A ⟨λj e σ=>?_,YG A (YG A ⟨xr,Zf A hQ⟩)⟩)))) O) O
 have:j=0:=O
 subst this
 exact cL σ (fU X 0)
theorem Q9(n)(X)(Z)(i)(hi:i=0)(hn:n=0)(Q):
  kr (ι:=Bool×Int) [Dk] [] 12 3008 12 (sF n X (mX X) (gX X)) (λ_=>FT 0 Z) (λp=>(true,p.2+1)) Q (false,i):=by
 rw[Dn]
 subst hi hn
 exact Zg zA λ_=>YG A (YG A trivial)
def mZ(n:Nat)(X:Nat->Nat->Int):Nat:=(gp X (min n 24)).1
def oW(n:Nat)(X:Nat->Nat->Int):Nat->ay:=(gp X (min n 24)).2
theorem Ra(n)(X):mZ n X<=24:=Nat.le_trans (Bc X _).1 O
theorem K5{n X}(hX:∀j,j<n->Yb X j=true):
  eu PP II false (aD II 12 3008) 12 (sF n X (mX X) (gX X) (false,0)) (FT (mZ n X) (oW n X)):=by
 have g:((min n 24:Nat):Int).toNat=min n 24:=O
 have key:=eu.Vk (ι:=Bool×Int) Hs [Dk] 1000 (λp=>match p.1 with
   |true=>[(7034,14,Ki n X (mX X p.2) (gX X p.2) p.2 (fU X p.2.toNat) 0,Of n X (mX X p.2) (gX X p.2) p.2 (fU X p.2.toNat) (ku (fU X p.2.toNat) (gX X p.2) (mX X p.2):Nat))]
   |false=>[]) (c:=aD II 12 3008) (ir:=false) 12 (λp=>match p.1 with
   |true=> ∃k:Nat,p.2=(k:Int)/\0<k/\k<=min n 24
   |false=>p.2=0) (sF n X (mX X) (gX X)) (λ_=>FT (mZ n X) (oW n X)) (λp=>match p.1 with
   |true=>min n 24-p.2.toNat
   |false=>min n 24+1) (λp=>(true,p.2+1)) (false,0) A A λp a=>?_
 rotate_left
 ·obtain⟨b,i⟩:=p
  cases b with
  |true=>
   obtain⟨k,d,e,l⟩:=a
   have d:i=(k:Int):=d
   have e1:i.toNat=k:=O
   have m:(i+1).toNat=k+1:=O
   by_cases f:k<min n 24
   ·have:=Oh n X (mZ n X) (oW n X) i k d O O e (hX k O) ((∃k:Nat,i+1=(k:Int)/\0<k/\k<=min n 24)/\min n 24-(i+1).toNat<min n 24-i.toNat/\(FT (mZ n X) (oW n X)).pick=(FT (mZ n X) (oW n X)).pick) Y
    grind
   ·have:min n 24=k:=by omega
    have h:=UJ n X (fU X i.toNat) (ku (fU X i.toNat) (gX X i) (mX X i):Nat) i k d O ((∃k:Nat,i+1=(k:Int)/\0<k/\k<=min n 24)/\min n 24-(i+1).toNat<min n 24-i.toNat/\(FT (mZ n X) (oW n X)).pick=(FT (mZ n X) (oW n X)).pick)
    have a1:mX X i=mZ n X:=by unfold mX mZ;rw[e1,this]
    have a2:gX X i=oW n X:=by unfold gX oW;rw[e1,this]
    grind
  |false=>
   have a:i=0:=a
   by_cases hn:0<n
   ·exact JV n X _ _ i a hn (hX 0 hn) _ Y
   ·have hn:n=0:=by omega
    have:mZ n X=0:=by subst hn;rfl
    rw[this]
    exact Q9 n X _ i a hn _
 exact key
theorem Dq{n X}(hX:∀j,j<n->Yb X j=true):
  af PP II 12 [.ab n 6 (fm X)] (AH.blank 12) (.ret (vo (mZ n X) (oW n X)) (AH.blank 12)):=by
 refine bY (ks:=[]) (T:=[(3008,12,sF n X (mX X) (gX X) (false,0),FT (mZ n X) (oW n X))]) (λσ=>?_) ?_
 ·exact⟨rfl,rfl,λi _=>cL _ _⟩
 rw[W2]
 refine⟨K5 hX,YG A ⟨u6 n X,cC _ _ ?_ ?_⟩⟩
 simp
 ·rfl
end Go.Sx
namespace Go.Sx
open Go
theorem u7{cs}(h:TO 6 cs=true):cs=[.int .i64 (bV cs 0),.int .i64 (bV cs 1),.int .i64 (bV cs 2),.int .i64 (bV cs 3),.int .i64 (bV cs 4),.int .i64 (bV cs 5)]/\(aN .i64 (bV cs 0)&&aN .i64 (bV cs 1)&&aN .i64 (bV cs 2)&&aN .i64 (bV cs 3)&&aN .i64 (bV cs 4)&&aN .i64 (bV cs 5))=true:=by
 obtain⟨c,b⟩:=pC 6 cs h
 obtain⟨a0,d⟩:=b 0 O
 obtain⟨a1,e⟩:=b 1 O
 obtain⟨a2,f⟩:=b 2 O
 obtain⟨g,i⟩:=b 3 O
 obtain⟨j,k⟩:=b 4 O
 obtain⟨l,m⟩:=b 5 O
 refine⟨?_,Y⟩
 match cs,c with
 |[x,y,a,u,v,w],_=>
  grind
end Go.Sx
end
