/- The proof of a statement of the seat, part 30. -/
import Derived.Test.YtoijalagmmgkbaaGreatDoorX26
import Derived.Test.YtoijalagmmgkbaaGreatDoorX29
import Derived.Test.YtoijalagmmgkbaaGreatDoorX25
set_option linter.all false
set_option linter.defProp false
set_option maxRecDepth 1000000
namespace Go.Sx
open Go
open Int renaming ofNat->M,toNat->a_
open Decidable renaming decide->z
open Nat renaming blt->b_,zero_le->h_,blt_eq->j_,ble->m_
open Tr renaming ofList->c_
open List renaming take->d_,drop->e_,range->i_
noncomputable section
def HE:AH:={n:=12,t:=c_ [(6,.cells dz (.ex 20)),(9,.cells [.str [48],.str [49]] .ro),(10,.cells [.str [49],.str [49]] .ro)]}
def Rb(b:ai):Bool:=match b with
 | .cells [.str [49],.str [49]] .ro=>true
 |_=>false
def Rc{b:ai}(h:Rb b=true):b= .cells [.str [49],.str [49]] .ro:=by
 unfold Rb at h
 split at h<;>first|rfl|cases h
def Re(H:AH):Bool:=m_ 12 H.n&&LS H&&Ff (H.get 9)&&Rb (H.get 10)
def KA(i:Nat):HE.get i=if i=6 then .cells dz (.ex 20)else if i=9 then .cells [.str [48],.str [49]] .ro else if i=10 then .cells [.str [49],.str [49]] .ro else .dead:=by
 show AH.get {n:=12,t:=c_ [(6,_),(9,_),(10,_)]} i=_
 simp only[AH.get,c_,Tr.bH,Tr.qV]
 by_cases b:i=6
 ·subst b;rfl
 ·by_cases c:i=9
  ·subst c;rfl
  ·by_cases a:i=10
   ·subst a;rfl
   ·simp[b,c,a]
def Jv{H:AH}(h:Re H=true):12<=H.n/\H.get 6= .cells dz (.ex 20)/\H.get 9= .cells [.str [48],.str [49]] .ro/\H.get 10= .cells [.str [49],.str [49]] .ro:=by
 unfold Re LS at h
 simp only[bf]at h
 exact⟨jX h.1.1.1,sY h.1.1.2,Jk h.1.2,Rc h.2⟩
def af.S1{f:FuncId}{args:List AV}{a:AV}{H:AH}(h:af PP II f args HE (.ret a HE))(q:Re H=true)(b:∀σ,bt.bD σ args=args)(ha:∀σ,a.bD σ=a):af PP II f args H (.ret a H):=by
 obtain⟨j,s,t,l⟩:=Jv q
 refine af.WW (H0:=HE) h zC j (λi hi=>?_) (λi c=>?_) b ha
 ·have hi:12<=i:=hi
  rw[KA,if_neg O,if_neg O,if_neg O]
 ·rw[KA]at c⊢
  by_cases m:i=6
  ·subst m
   refine⟨s,λσ _=>?_⟩
   show ai.cells (bt.bD σ dz) (.ex 20)=_
   rw[nN];rfl
  ·rw[if_neg m]at c⊢
   by_cases o:i=9
   ·subst o;exact⟨t,λ_ _=>rfl⟩
   ·rw[if_neg o]at c⊢
    by_cases d:i=10
    ·subst d;exact⟨l,λ_ _=>rfl⟩
    ·rw[if_neg d]at c;exact absurd A c
def aC.S1(f:FuncId)(spec:{R:Type}->RI R->List AV->(AV->R)->R)
  (ok:∀{R:Type}(X:RI R)(sem:R->Prop),X.Ok sem->∀args c,sem (spec X args c)->∃a,sem (c a)/\(∀σ,a.bD σ=a)/\(∀σ,bt.bD σ args=args)/\af PP II f args HE (.ret a HE)):aC PP II where
 f:=f
 spec X args H c _:=jK X 100000 args H λb H'=>X.ak (Re H') (spec X b λa=>c a H')
 ok X sem hX args H c kp h:=by
  obtain⟨b,H',d,i⟩:=gC hX _ _ _ _ h
  obtain⟨j,d⟩:=hX.ak _ _ d
  obtain⟨a,k1,k2,l,m⟩:=ok X sem hX _ _ d
  exact⟨.ret a H',k1,(m.S1 j l k2).nI i⟩
abbrev ke(ks:List (aC PP II))(T:lI)(f:FuncId)(args:List AV)(Q:AV->Prop):Prop :=
 jE ks (mG PP II T) 1000 f args HE (λa H=>qC RI.jY 100000 a H λa' H2=>B (Re H2) (Q a')) (λ_ _=>False)
def Vf{ks:List (aC PP II)}{T:lI}{f:FuncId}{args:List AV}{a':AV}(h:ke ks T f args (λa=> ∀σ,AV.le σ a a')):af PP II f args HE (.ret a' HE):=by
 obtain⟨o,g,k⟩:=fJ iw ks (bm PP II T) 1000 f args HE _ _ h
 cases o with
 |ret a H1=>
  obtain⟨x,H2,k1,k2⟩:=lm RI.dJ _ _ _ _ g
  obtain⟨m,k1⟩:=Zk k1
  have k1:∀σ,AV.le σ x a':=k1
  obtain⟨c,p,q,d⟩:=Jv m
  refine(k.vW k2).le (ky.of [] (im.of (by rfl) A A A (kV c) (gS.2 λl hl=>?_)) (k1 _))
  have hl:l<12:=hl
  have e:∀i,i<12->sig HE.n [] H2.n i=i:=λi hi=>by
   show sig 12 [] H2.n i=i
   unfold sig
   rw[show b_ i 12=true from by rw[j_];exact hi];rfl
  rw[KA]
  by_cases j:l=6
  ·subst j
   rw[if_pos A]
   show if sig HE.n [] H2.n 6<H2.n then ai.le (sig HE.n [] H2.n) (H2.get (sig HE.n [] H2.n 6)) (ai.cells dz (.ex 20))else _
   rw[e 6 O,if_pos O,p]
   exact⟨pz _,rfl⟩
  ·rw[if_neg j]
   by_cases c9:l=9
   ·subst c9
    rw[if_pos A]
    show if sig HE.n [] H2.n 9<H2.n then ai.le (sig HE.n [] H2.n) (H2.get (sig HE.n [] H2.n 9)) (ai.cells [.str [48],.str [49]] .ro)else _
    rw[e 9 O,if_pos O,q]
    exact⟨⟨rfl,rfl,trivial⟩,trivial⟩
   ·rw[if_neg c9]
    by_cases b:l=10
    ·subst b
     rw[if_pos A]
     show if sig HE.n [] H2.n 10<H2.n then ai.le (sig HE.n [] H2.n) (H2.get (sig HE.n [] H2.n 10)) (ai.cells [.str [49],.str [49]] .ro)else _
     rw[e 10 O,if_pos O,d]
     exact⟨⟨rfl,rfl,trivial⟩,trivial⟩
    ·rw[if_neg b];trivial
 |qt a H1=>exact g.elim
def lh(S:Nat->List UInt8)(j:Nat):List AV:=[.str (S j),.str [49]]
def eu(_:Nat):List AV:=[.str [49],.str [49]]
def nX(S:Nat->List UInt8)(j:Nat):List AV:=[.str (S j),.str [49],.str [49],.str [49]]
def WB(n:Nat)(a:List (Nat×ai)):AH:={n:=n,t:=c_ ([(6,.cells dz (.ex 20)),(9,.cells [.str [48],.str [49]] .ro),(10,.cells [.str [49],.str [49]] .ro)]++a)}
def VH(n:Nat)(S:Nat->List UInt8)(m:Int->Nat)(i:Int):St:={t:=c_ [(0,.ab n 2 (lh S)),(1,.ab n 2 eu),(6,.own 12 (m i) 4),(19,.int .i64 (M n)),(20,.int .i64 i)],nt:=69,H:=WB 13 [(12,.rows (m i) 4 (nX S) (.ty 220))],df:=[]}
def VI(n:Nat)(S:Nat->List UInt8):GE:=.one (.x 0 {t:=c_ [(6,.own 12 n 4)],nt:=69,H:=WB 13 [(12,.rows n 4 (nX S) (.ty 220))],df:=[]})
def S8(n:Nat)(S:Nat->List UInt8)(m:Int->Nat)(i:Int)(Q:Prop):(kr [yM,j8] [] 83 5001 12 (VH n S m) (λ_=>VI n S) (λi=>i+1) Q i)=(ah (z (i<M n)) (B (z (0<=i)&&z (i<M n)) (B (bJ (S i.toNat) [49]) (B (z (0<=i)&&z (i<M n)) (B (bJ [49] [49]) (B (z (0<=i)&&z (i<M n)) (B (bJ [49] [49]&&bJ [48] [49]) (ah (z (bw (ao [49]) (ao [49]) (ao [48]) (ao [49])<=0)) False (B (z (0<=i)&&z (i<M n)) (B (bJ [49] [49]&&bJ [49] [49]) (ah (z (bw (ao [49]) (ao [49]) (ao [49]) (ao [49])>0)) False (B (z (0<=i)&&z (i<M n)) (B (z (0<=i)&&z (i<M n)) (B (z (m i<=m i)&&true&&true&&z ((m i+1)*64<=140737488355328)&&true) (B (aN .i64 (i+1)) (ax (m i+1) (m (i+1)) (an (m i+1) (λa=>bif b_ a (m i)then nX S a else d_ 4 (e_ (0+(a-m i)*4) [AV.str (S i.toNat),AV.str [49],AV.str [49],AV.str [49]])) (nX S)/\zyB [49] (zyB [49] (zyB [48] (zyB [49] (zyI (M n) (zyN n (zyR n eu (zyN n (zyR n (lh S) (zyI (i+1) (ax (m i+1) (m (i+1)) Q)))))))))))))))))))))))))) (ax (m i) n (zyR (m i) (nX S) (zyB [49] (zyB [49] (zyB [48] (zyB [49] (ax (m i) n True)))))))):=U
def Wb(n:Nat)(S:Nat->List UInt8)(m:Int->Nat)(Q:AV->Prop):(ke [] [(5001,12,VH n S m 0,VI n S)] 83 [.ab n 2 (lh S),.ab n 2 eu] Q)=(ah (!decide (M n=M n)) (Q (AV.bK [AV.aw,AV.bool false])) (ah (z (M n>400)) (Q (AV.bK [AV.aw,AV.bool false])) (aE PP II false (aD II 83 5001) 12 (VH n S m 0) (VI n S)/\ax (m 0) 0 (zyB [49] (zyB [49] (zyB [48] (zyB [49] (zyI (M n) (zyN n (zyR n eu (zyN n (zyR n (lh S) (ax (m 0) 0 (B ((List.all (List.range.loop n []) λi=>true)&&z (n<=n)) (Q (AV.bK [AV.ab n 4 (nX S),AV.bool true])))))))))))))))):=U
def aj(q:Query)(x:ay)(j:Nat):Int:=gJ x (q.G j) 0
def bL(n)(W):an n (ae W) (ae W):=Zj λ_ _=>ep _ _ _
def eV{a b}(h:a<b):b_ a b=true:=ZD
def js{a b}(h :¬ a<b):b_ a b=false:=by rw[Bool.eq_false_iff];simp_all
def ey(W)(j)(v)(a:v=W j):an (j+1) (λi=>bif b_ i j then ae W i else d_ 1 (e_ (0+(i-j)*1) [.int .i64 v])) (ae W):=λk b σ=>by
 show bt.le σ (bif b_ k j then ae W k else d_ 1 (e_ (0+(k-j)*1) [.int .i64 v])) (ae W k)
 by_cases h:k<j
 ·rw[eV h];exact ep _ _ _
 ·have:k=j:=by omega
  subst this
  rw[js h,show 0+(k-k)*1=0 by omega,a]
  exact⟨⟨rfl,rfl⟩,trivial⟩
def Jl(q)(x)(i)(j:Nat)(a:i=(j:Int))(hn:q.ng<=4)(d:j<q.ng)(Q)(hQ:Q):kr [jr] [] 30 5001 14 (CI q x (aj q x)) (λ_=>xV q.ng (aj q x)) (λi=>i+1) Q i:=by
 rw[CJ]
 have b:a_ i=j:=O
 have c:a_ (i+1)=j+1:=O
 have e:M q.ng=(q.ng:Int):=rfl
 rw[b,c]
 refine Zg (λ_=>?_) O
 refine cC _ _ Y (cC _ _ Y (cC _ _ (aq O O) ?_))
 have rows:=ey (aj q x) j (gJ x (q.G j) 0) A
 repeat' (first|exact hQ|exact rows|exact aZ|exact bO _ _|refine Zf A ?_|refine YG A ?_|refine And.intro ?_ ?_)
def Nu(q)(x)(hn:q.ng<=4):aE PP II false (aD II 30 5001) 14 (CI q x (aj q x) 0) (xV q.ng (aj q x)):=by
 have key:=aE.of (ι:=Nat) iw [jr] (bm PP II []) 1000 (c:=aD II 30 5001) (ir:=false) 14 (λj=>j<=q.ng) (λj=>CI q x (aj q x) (j:Int)) (λ_=>xV q.ng (aj q x)) (λj=>q.ng-j) (λj=>j+1) 0 A (h_ _) λj b=>?_
 ·exact key
 by_cases a:j<q.ng
 ·exact Jl q x (j:Int) j A hn a (j+1<=q.ng/\q.ng-(j+1)<q.ng-j/\(xV q.ng (aj q x)).pick=(xV q.ng (aj q x)).pick) Y
 ·have b:j=q.ng:=by have:j<=q.ng:=b;omega
  have done:∀(i:Int)(Q:Prop),i=(q.ng:Int)->kr [jr] [] 30 5001 14 (CI q x (aj q x)) (λ_=>xV q.ng (aj q x)) (λi=>i+1) Q i:=λi Q d=>by
   rw[CJ]
   have f:M q.ng=(q.ng:Int):=rfl
   have e:i.toNat=q.ng:=O
   refine Zg O λ_=>?_
   rw[e]
   exact YG A ⟨bL _ _,aZ,YG A trivial⟩
  exact done (j:Int) _ O
def Un{q}(h:eU q=true):q.ng<=4:=by
 unfold eU at h
 grind
def Uo{q x}(b:aI 3 q.nw (au q.C)=true)(c:aI 1 q.ng (aR q.G)=true)(a:eU q=true)(hx:bB x=true):
  af PP II 30 [.agg (aY q),.agg (aF x)] HO (.ret (.bK [.ab q.ng 1 (ae (aj q x)),.int .i64 0]) HO):=by
 refine CB (ks:=[lQ,nL]) (T:=[(5001,14,CI q x (aj q x) 0,xV q.ng (aj q x))]) (λσ=>⟨⟨rfl,rfl,λ_ _=>ep _ _ _⟩,⟨rfl,rfl⟩,trivial⟩) ?_
 rw[Um,b,c,show eU _=true from(oH q).trans a,hx]
 refine cC _ _ A (cC _ _ A ⟨Nu q x (Un a),?_⟩)
 repeat' (first|exact aZ|exact bO _ _|refine Zf A ?_|refine YG A ?_|refine And.intro ?_ ?_|exact cC _ _ zA ⟨rfl,rfl⟩)
def Bh:ao [48]=0:=by rw[<-ly];exact cq 0
def Wc:bw 1 1 0 1=1:=by decide+kernel
def Wd:bw 1 1 1 1=0:=by decide+kernel
def tl(σ:Nat->Nat)(S:Nat->List UInt8)(j:Nat):bt.le σ (nX S j) (nX S j):=⟨rfl,rfl,rfl,rfl,trivial⟩
def tn(σ:Nat->Nat)(S:Nat->List UInt8)(j:Nat):bt.le σ (lh S j) (lh S j):=⟨rfl,rfl,trivial⟩
def pr(σ:Nat->Nat)(j:Nat):bt.le σ (eu j) (eu j):=⟨rfl,rfl,trivial⟩
def pn{e:Nat}(R:Nat->List AV)(k:Nat)(a:∀j σ,bt.le σ (R j) (R j))(b:(R k).length=e):an (k+1) (λi=>bif b_ i k then R i else d_ e (e_ (0+(i-k)*e) (R k))) R:=λj c σ=>by
 show bt.le σ (bif b_ j k then R j else d_ e (e_ (0+(j-k)*e) (R k))) (R j)
 by_cases h:j<k
 ·rw[eV h];exact a j σ
 ·have:j=k:=by omega
  subst this
  rw[js h,cond_false,Nat.sub_self,Nat.zero_mul,List.drop_zero,<-b,List.take_length]
  exact a j σ
def We:(bJ [49] [49]&&bJ [48] [49])=true:=by
 rw[mr jz,mr (show isNat [48]=true by rw[<-ly];exact dc (jL (n:=0) O))];rfl
def Tg{n:Nat}{S:Nat->List UInt8}(r:n<=400)(hS:∀j,j<n->isNat (S j)=true):aE PP II false (aD II 83 5001) 12 (VH n S a_ 0) (VI n S):=by
 have key:=aE.of (ι:=Int) iw [yM,j8] (bm PP II []) 1000 (c:=aD II 83 5001) (ir:=false) 12 (λi=> ∃k:Nat,i=(k:Int)/\k<=n) (λi=>VH n S a_ i) (λ_=>VI n S) (λi=>n-i.toNat) (λi=>i+1) 0 A ⟨0,rfl,h_ n⟩ λp f=>?_
 ·exact key
 have s:M n=(n:Int):=rfl
 have b:bJ [49] [49]=true:=mr jz
 have g:(bJ [49] [49]&&bJ [49] [49])=true:=by rw[b];rfl
 have l :¬ bw (ao [49]) (ao [49]) (ao [48]) (ao [49])<=0:=by rw[il,Bh,Wc];decide
 have m :¬ bw (ao [49]) (ao [49]) (ao [49]) (ao [49])>0:=by rw[il,Wd];decide
 have r1:an n eu eu:=λj _ σ=>pr σ j
 have o:an n (lh S) (lh S):=λj _ σ=>tn σ S j
 obtain⟨k,rfl,t⟩:=f
 have go:∀Q:Prop,(k<n->Q)->kr [yM,j8] [] 83 5001 12 (VH n S a_) (λ_=>VI n S) (λi=>i+1) Q (k:Int):=λQ hQ=>by
  rw[S8,show a_ (k:Int)=k from rfl,show a_ ((k:Int)+1)=k+1 by omega]
  refine Zg (λh=>?_) λh=>?_
  ·have d:k<n:=by omega
   have a:(z ((0:Int)<=(k:Int))&&z ((k:Int)<M n))=true:=by simp only[bf,bn];omega
   have q:(z (k<=k)&&true&&true&&z ((k+1)*64<=140737488355328)&&true)=true:=by rw[bW (dw k),bW (O:(k+1)*64<=140737488355328)];rfl
   refine cC _ _ a (cC _ _ (mr (hS k d)) (cC _ _ a (cC _ _ b (cC _ _ a (cC _ _ We ?_)))))
   refine Zg (λc=>absurd c l) λ_=>cC _ _ a (cC _ _ g ?_)
   refine Zg (λc=>absurd c m) λ_=>cC _ _ a (cC _ _ a ?_)
   refine cC _ _ q (cC _ _ (aq O O) (YG A ⟨pn (nX S) k (λj σ=>tl σ S j) A,?_⟩))
   refine Zi A (Zi A (Zi A (Zi A (Zf A (YG A ⟨r1,YG A ⟨o,Zf A (YG A (hQ d))⟩⟩)))))
  ·have e:k=n:=by omega
   subst e
   exact YG A ⟨λj _ σ=>tl σ S j,Zi A (Zi A (Zi A (Zi A (YG A trivial))))⟩
 exact go _ λh=>⟨⟨k+1,rfl,O⟩,ZE,rfl⟩
def Wf{n:Nat}{S:Nat->List UInt8}(a:n<=400)(hS:∀j,j<n->isNat (S j)=true):af PP II 83 [.ab n 2 (lh S),.ab n 2 eu] HE (.ret (.bK [.ab n 4 (nX S),.bool true]) HE):=by
 refine Vf (ks:=[]) (T:=[(5001,12,VH n S a_ 0,VI n S)]) ?_
 rw[Wb]
 have b:M n=(n:Int):=rfl
 refine Zh (λh=>absurd h (by rw[bW A];decide)) λ_=>Zg (λh=>absurd h O) λ_=>⟨Tg a hS,Zi A (Zi A (Zi A (Zi A (Zf A (YG A ⟨λj _ σ=>pr σ j,YG A ⟨λj _ σ=>tn σ S j,YG A (cC _ _ ?_ λσ=>⟨⟨rfl,rfl,λj _=>tl σ S j⟩,rfl,trivial⟩)⟩⟩)))))⟩
 rw[bW (dw n),Bool.and_true]
 exact List.all_eq_true.2 λ_ _=>rfl
def pS(f:Nat->List AV)(j:Nat):List UInt8:=match f j with
 | .str s::_=>s
 |_=>[]
def mY(n:Nat)(f:Nat->List AV):Bool:=(i_ n).all λj=>match f j with
 |[.str s,.str d]=>isNat s&&z (d=[49])&&b_ (ao s) 10000
 |_=>false
def tp(n:Nat)(f:Nat->List AV):Bool:=(i_ n).all λj=>match f j with
 |[.str s,.str d]=>z (s=[49])&&z (d=[49])
 |_=>false
def zT{n:Nat}{f:Nat->List AV}(h:mY n f=true):∀j,j<n->f j=lh (pS f) j/\isNat (pS f j)=true/\ao (pS f j)<10000:=λj a=>by
 have:=List.all_eq_true.1 h j (List.mem_range.2 a)
 unfold lh pS
 split at this
 ·rename_i s d e
  simp only[bf,bn,j_]at this
  obtain⟨⟨a1,rfl⟩,b⟩:=this
  rw[e];exact⟨rfl,a1,b⟩
 ·cases this
def FV{n:Nat}{f:Nat->List AV}(h:tp n f=true):∀j,j<n->f j=eu j:=λj a=>by
 have:=List.all_eq_true.1 h j (List.mem_range.2 a)
 unfold eu
 split at this
 ·rename_i s d e
  simp only[bf,bn]at this
  obtain⟨rfl,rfl⟩:=this
  exact e
 ·cases this
def Wg:aC PP II:=aC.S1 83
 (λX args c=>match args with
  |[.ab n 2 f,.ab m 2 g]=>X.ak (Nat.beq n m&&m_ n 400&&mY n f&&tp n g) (c (.bK [.ab n 4 (nX (pS f)),.bool true]))
  |_=>X.fail)
 λX sem hX args c h=>by
  split at h
  ·rename_i n f m g
   obtain⟨d,e⟩:=hX.ak _ _ h
   simp only[bf]at d
   obtain⟨⟨⟨a1,a2⟩,b⟩,a4⟩:=d
   cases dE a1
   have b:=zT b
   refine⟨_,e,λ_=>rfl,λ_=>rfl,(Wf (S:=pS f) (jX a2) λj a=>(b j a).2.1).dq ⟨⟨rfl,rfl,λj a=>?_⟩,⟨rfl,rfl,λj a=>?_⟩,trivial⟩⟩
   ·rw[(b j a).1];exact tn _ _ j
   ·rw[FV a4 j a];exact pr _ j
  ·exact zR
end
end Go.Sx
