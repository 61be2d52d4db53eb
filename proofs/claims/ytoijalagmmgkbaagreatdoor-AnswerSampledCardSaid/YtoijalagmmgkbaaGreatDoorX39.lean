/- Lemmas, part 39. -/
import Derived.Test.YtoijalagmmgkbaaGreatDoorX38
set_option linter.all false
set_option linter.defProp false
section
set_option maxRecDepth 100000
namespace Go.Sx
open Go
end Go.Sx
end
section
set_option maxRecDepth 1000000
namespace Go.Sx
open Go
end Go.Sx
end
section
set_option maxRecDepth 100000
namespace Go.Sx
open Go Go.Sort Go.Shelf Go.Proofs
end Go.Sx
end
section
set_option maxRecDepth 1000000
namespace Go.Sx
open Go
def ac3(RN:Nat->(Nat->ay)->Nat)(RA:Nat->(Nat->ay)->Nat->Nat->Int)(RB:Nat->(Nat->ay)->Nat->Nat->List UInt8)(nw:Nat)(f:Nat->List AV)(ng:Nat)(g:Nat->List AV)(a fl:Int)(nu de:List UInt8)(top:Int)(k:Nat)(h:Nat->List AV):Prop :=
 ad4 (λ_=>RN k (bP h)) (λ_=>RA k (bP h)) (λ_=>RB k (bP h)) nw f ng g a fl nu de top k h
open Classical in
noncomputable def abm(RN:Nat->(Nat->ay)->Nat)(RA:Nat->(Nat->ay)->Nat->Nat->Int)(RB:Nat->(Nat->ay)->Nat->Nat->List UInt8)(nw:Nat)(f:Nat->List AV)(ng:Nat)(g:Nat->List AV)(a fl:Int)(nu de:List UInt8)(top:Int)(k:Nat)(h:Nat->List AV):Bool:=decide (ac3 RN RA RB nw f ng g a fl nu de top k h)
open Classical in
theorem aaS{RN:Nat->(Nat->ay)->Nat}{RA:Nat->(Nat->ay)->Nat->Nat->Int}{RB:Nat->(Nat->ay)->Nat->Nat->List UInt8}{nw:Nat}{f:Nat->List AV}{ng:Nat}{g:Nat->List AV}{a fl:Int}{nu de:List UInt8}{top:Int}{k:Nat}{h:Nat->List AV}:abm RN RA RB nw f ng g a fl nu de top k h=true↔ac3 RN RA RB nw f ng g a fl nu de top k h:=by
 unfold abm
 exact decide_eq_true_iff
noncomputable def aeb(RN:Nat->(Nat->ay)->Nat)(RA:Nat->(Nat->ay)->Nat->Nat->Int)(RB:Nat->(Nat->ay)->Nat->Nat->List UInt8):aC PP II:=aC.s9 13
 (λX args i=>match args with
  |[.agg [.ab nw 3 f,.ab ng 1 g,.int .i64 a,.int .i64 fl,.str nu,.str de,.int .i64 top],.ab k 10 h]=>X.bq (abm RN RA RB nw f ng g a fl nu de top k h) (i (.qP [.ab (RN k (bP h)) 9 (aX ng (RA k (bP h)) (RB k (bP h))),.int .i64 0]))
  |_=>X.fail)
 λX sem hX args i h=>by
  split at h
  ·rename_i nw f ng g a fl nu de top k b
   obtain⟨l,j⟩:=hX.bq _ _ h
   obtain⟨⟨a1,a2,m,n,o⟩,c,d,e⟩:=aaS.1 l
   obtain⟨hq,hi,p⟩:=adr a1 a2 m
   have c:_=RN k (bP b):=c
   have d:_=RA k (bP b):=d
   have e:_=RB k (bP b):=e
   rw[<-c,<-d,<-e]at j
   refine⟨_,j,λ_=>rfl,λσ=>?_,af.dA (A8 p o) (toQ_le hq hi) (fq n)⟩
   show [AV.bD σ (.agg _),_]=_
   rw[nU hq];rfl
  ·exact zR
noncomputable def XE:aC PP II:=aC.pure 18
 (λX args b=>match args with
  |[.int .i64 c,.int .i64 n]=>X.bq (decide (0<n)&&aN .i64 c) (b (.int .i64 (av c n)))
  |_=>X.fail)
 λX sem hX args b h=>by
  split at h
  ·obtain⟨a,d⟩:=hX.bq _ _ h
   simp only[bf,bn]at a
   exact⟨_,d,λ_=>rfl,λ_=>rfl,PT a.2 a.1⟩
  ·exact zR
end Go.Sx
end
section
set_option maxRecDepth 1000000
namespace Go.Sx
open Go
theorem acu{n F D}(hn:n<=400)(e:∀j,j<n->isNat (D j)=true/\0<ao (D j)/\ao (D j)<10)(f:∀j,j+1<n->(F (j+1)).t=(F j).t->D (j+1)=D j):eu PP II false (aD II 54 2001) 12 (K0 n F D 0) (K1 n F D):=by
 refine eu.wL [abh] (n:=n) A λk i Q hQ=>?_
 have l:Int.ofNat n=(n:Int):=rfl
 have r:=Rz n F D
 rw[acr,show Int.toNat (k:Int)=k from rfl]
 refine Zg (λh=>?_) λh=>?_
 ·have c:k<n:=by omega
  obtain⟨d1,m,o⟩:=e k c
  have p:Int.ofNat (ao (D k))=(ao (D k):Int):=rfl
  have g:(decide ((0:Int)<=(k:Int))&&decide ((k:Int)<Int.ofNat n))=true:=by simp only[bf,bn];omega
  have hi:aN .i64 ((k:Int)+1)=true:=aq O O
  have fin:=cC _ _ hi (Zf (a:=(k:Int)+1) A (YG (a:=n) A (And.intro r (YG (a:=n) A (And.intro r (Zf (a:=Int.ofNat n) A (hQ c)))))))
  refine cC _ _ g (cC _ _ ZD (Zg O λ_=>Zg (λq=>?_) λ_=>fin))
  obtain⟨j,rfl⟩:∃j,k=j+1:=⟨k-1,O⟩
  have d:aN .i64 (((j+1:Nat):Int)-1)=true:=aq O O
  have b:(decide ((0:Int)<=((j+1:Nat):Int)-1)&&decide (((j+1:Nat):Int)-1<Int.ofNat n))=true:=by simp only[bf,bn];omega
  rw[show Int.toNat (((j+1:Nat):Int)-1)=j by omega]
  refine cC _ _ d (cC _ _ b (Zg (λht=>cC _ _ d (cC _ _ b ?_)) λ_=>fin))
  rw[f j c ht,show List.beq (D j) (D j)=true from Cg _]
  exact fin
 ·exact YG A ⟨r,trivial⟩
def VS(n:Nat)(F:Nat->ay)(D:Nat->List UInt8):Bool:=((List.range n).all λj=>isNat (D j)&&Nat.blt 0 (ao (D j))&&Nat.blt (ao (D j)) 10)&&(List.range (n-1)).all λj=>!decide ((F (j+1)).t=(F j).t)||decide (D (j+1)=D j)
theorem ZX{n F D}(h:VS n F D=true):(∀j,j<n->isNat (D j)=true/\0<ao (D j)/\ao (D j)<10)/\∀j,j+1<n->(F (j+1)).t=(F j).t->D (j+1)=D j:=by
 unfold VS at h
 rw[bf]at h
 refine⟨λj a=>?_,λj a ht=>?_⟩
 simp_all
 grind
theorem ads{n F D}(h:cX n F=true)(a:VS n F D=true):af PP II 54 [.ab n 12 (gW F D)] HP (.ret (.bool true) HP):=by
 have hn:=jS h
 have r:=Rz n F D
 obtain⟨d1,b⟩:=ZX a
 refine kz (ks:=[ad3,uT]) (T:=[(2001,12,K0 n F D 0,K1 n F D)]) ?_
 rw[adp,XC,kV hn,show Oq (gW F D)=F from rfl,Ag,h,gr,bW O]
 exact⟨acu hn d1 b,YG A ⟨r,YG A ⟨r,Zf A (cC _ _ A (cC _ _ A λ_=>rfl))⟩⟩⟩
noncomputable def ac4:aC PP II:=aC.l8 54
 (λX args b=>match args with
  |[.ab n 12 f]=>X.bq (aan n f&&cX n (Oq f)&&VS n (Oq f) (VO f)) (b (.bool true))
  |_=>X.fail)
 λX sem hX args b h=>by
  split at h
  ·obtain⟨a,c⟩:=hX.bq _ _ h
   simp only[bf]at a
   exact⟨_,c,λ_=>rfl,λ_=>rfl,(ads a.1.2 a.2).dq ⟨Y6 a.1.1,trivial⟩⟩
  ·exact zR
noncomputable def K3(n:Nat)(F:Nat->ay)(w:Nat)(W:Nat->Int)(D:Nat->List UInt8)(m:Int->Nat)(i:Int):St:={t:=Tr.ofList [(0,.ab n 10 (λj=>eD (F j))),(1,.ab w 1 (ae W)),(5,.own 12 (m i) 12),(6,.int .i64 i)],nt:=41,H:={n:=13,t:=Tr.ofList [(12,.rows (m i) 12 (gW F D) (.ty 57))]},df:=[]}
noncomputable def LM(n:Nat)(F:Nat->ay)(D:Nat->List UInt8):GE:=.one (.x 0 {t:=Tr.ofList [(5,.own 12 n 12)],nt:=41,H:={n:=13,t:=Tr.ofList [(12,.rows n 12 (gW F D) (.ty 57))]},df:=[]})
theorem acv(n)(F)(w)(W)(D)(m)(i)(Q):(kr [abj,XE] [] 19 3004 12 (K3 n F w W D m) (λ_=>LM n F D) (λi=>i+1) Q i)=(let f:=(decide (ay.t (F i.toNat)=ay.t (F i.toNat))&&(decide (ay.s (F i.toNat)=ay.s (F i.toNat))&&(decide (ay.v (F i.toNat)=ay.v (F i.toNat))&&(decide (ay.w (F i.toNat)=ay.w (F i.toNat))&&(decide (ay.o (F i.toNat)=ay.o (F i.toNat))&&(decide (ay.p (F i.toNat)=ay.p (F i.toNat))&&(decide (ay.d (F i.toNat)=ay.d (F i.toNat))&&(decide (ay.l (F i.toNat)=ay.l (F i.toNat))&&(decide (ay.h (F i.toNat)=ay.h (F i.toNat))&&(decide (ay.b (F i.toNat)=ay.b (F i.toNat))&&true))))))))));let c:=(W (Int.toNat (Int.tmod (ay.t (F i.toNat)) (Int.ofNat w))));let g:=(zyR w (ae W) (ax (m i+1) (m (i+1)) (zyN n ((an n (λj=>eD (F j)) λj=>eD (F j))/\zyI (i+1) Q))));let k:=(decide (m i<=m i)&&true&&true&&decide ((m i+1)*112<=140737488355328)&&true);let e:=(decide (0<=i)&&decide (i<Int.ofNat n));(ah (decide (i<Int.ofNat n)) (ah (decide (Int.ofNat w>0)) (aa e (aa (!decide (Int.ofNat w=0)) (aa (decide (0<=Int.tmod (ay.t (F i.toNat)) (Int.ofNat w))&&decide (Int.tmod (ay.t (F i.toNat)) (Int.ofNat w)<Int.ofNat w)) (aa (aN .i64 c) (aa (aN .i64 (1+av c 9)) (aa e (aa (decide (1<=1+av c 9)&&decide (1+av c 9<=9)) (aa f (aa k (aa (aN .i64 (i+1)) (ax (m i+1) (m (i+1)) (an (m i+1) (λa=>bif Nat.blt a (m i)then gW F D a else List.take 12 (List.drop (0+(a-m i)*12) [AV.int .i64 (ay.t (F i.toNat)),AV.int .i64 (ay.s (F i.toNat)),AV.int .i64 (ay.v (F i.toNat)),AV.int .i64 (ay.w (F i.toNat)),AV.int .i64 (ay.o (F i.toNat)),AV.int .i64 (ay.p (F i.toNat)),AV.int .i64 (ay.d (F i.toNat)),AV.int .i64 (ay.l (F i.toNat)),AV.int .i64 (ay.h (F i.toNat)),AV.int .i64 (ay.b (F i.toNat)),AV.str [49],AV.str (bu (Int.toNat (1+av c 9)))])) (gW F D)/\zyN w g)))))))))))) (aa e (aa f (aa k (aa (aN .i64 (i+1)) (ax (m i+1) (m (i+1)) (an (m i+1) (λa=>bif Nat.blt a (m i)then gW F D a else List.take 12 (List.drop (0+(a-m i)*12) [AV.int .i64 (ay.t (F i.toNat)),AV.int .i64 (ay.s (F i.toNat)),AV.int .i64 (ay.v (F i.toNat)),AV.int .i64 (ay.w (F i.toNat)),AV.int .i64 (ay.o (F i.toNat)),AV.int .i64 (ay.p (F i.toNat)),AV.int .i64 (ay.d (F i.toNat)),AV.int .i64 (ay.l (F i.toNat)),AV.int .i64 (ay.h (F i.toNat)),AV.int .i64 (ay.b (F i.toNat)),AV.str [49],AV.str [49]])) (gW F D)/\zyN w g))))))) (ax (m i) n (zyR (m i) (gW F D) (ax (m i) n True))))):=U
theorem adv(n)(F)(w)(W)(D)(m)(Q):(kb [] [(3004,12,K3 n F w W D m 0,LM n F D)] 19 [.ab n 10 (λj=>eD (F j)),.ab w 1 (ae W)] Q)=(eu PP II false (aD II 19 3004) 12 (K3 n F w W D m 0) (LM n F D)/\ax (m 0) 0 (zyN w (zyR w (ae W) (ax (m 0) 0 (zyN n ((an n (λj=>eD (F j)) λj=>eD (F j))/\aa ((List.all (List.range n) λi=>bt.free (gW F D i))&&decide (n<=n)) (Q (AV.ab n 12 (gW F D))))))))):=U
end Go.Sx
end
section
set_option maxRecDepth 1000000
namespace Go.Sx
open Go
def CN(w:Nat)(W:Nat->Int)(t:Int):Int:=bif Nat.blt 0 w then 1+av (W (Int.toNat (Int.tmod t (Int.ofNat w)))) 9 else 1
def Ka(w:Nat)(W:Nat->Int)(F:Nat->ay)(j:Nat):List UInt8:=bu (CN w W (F j).t).toNat
theorem abo(w)(W)(t):1<=CN w W t/\CN w W t<=9:=by
 unfold CN
 have:=cj (c:=W (Int.toNat (Int.tmod t (Int.ofNat w)))) (n:=9) O
 grind
theorem abp(n w)(W)(F):VS n F (Ka w W F)=true:=by
 unfold VS
 rw[bf]
 refine⟨List.all_eq_true.2 λj _=>?_,List.all_eq_true.2 λj _=>?_⟩
 ·have h:=abo w W (F j).t
  show(isNat (bu (CN w W (F j).t).toNat)&&Nat.blt 0 (ao (bu (CN w W (F j).t).toNat))&&Nat.blt (ao (bu (CN w W (F j).t).toNat)) 10)=true
  rw[dc (jL O),cq,Nat.blt_eq.mpr O,Nat.blt_eq.mpr O]
  rfl
 ·by_cases h:(F (j+1)).t=(F j).t
  ·rw[show Ka w W F (j+1)=Ka w W F j by unfold Ka;rw[h]]
   simp
  grind
theorem acw{n:Nat}{F:Nat->ay}{w:Nat}{W:Nat->Int}(hn:n<=400)(ht:∀j,j<n->0<=(F j).t)(i:∀j,j<w->aN .i64 (W j)=true):eu PP II false (aD II 19 3004) 12 (K3 n F w W (Ka w W F) Int.toNat 0) (LM n F (Ka w W F)):=by
 refine eu.wL [abj,XE] (n:=n) A λk q Q hQ=>?_
 have u:Int.ofNat n=(n:Int):=rfl
 have v:Int.ofNat w=(w:Int):=rfl
 rw[acv,show Int.toNat (k:Int)=k from rfl,show Int.toNat ((k:Int)+1)=k+1 by omega]
 refine Zg (λh=>?_) λh=>?_
 ·have b:k<n:=by omega
  have d:(decide ((0:Int)<=(k:Int))&&decide ((k:Int)<Int.ofNat n))=true:=by simp only[bf,bn];omega
  have f:(decide (k<=k)&&true&&true&&decide ((k+1)*112<=140737488355328)&&true)=true:=by rw[bW (dw k),bW O];rfl
  have e1:Int.toNat ((k:Int)+1)=k+1:=O
  have r:an n (λj=>eD (F j)) (λj=>eD (F j)):=λj _ σ=>cL σ _
  have a:aN .i64 ((k:Int)+1)=true:=aq O O
  refine Zg (λl=>?_) λl=>?_
  ·have m:0<w:=by omega
   have o:=ht k b
   have a0:0<=Int.tmod (F k).t (Int.ofNat w):=Int.tmod_nonneg _ o
   have a1:Int.tmod (F k).t (Int.ofNat w)<Int.ofNat w:=Int.tmod_lt_of_pos _ O
   have g:=i (Int.toNat (Int.tmod (F k).t (Int.ofNat w))) O
   have pl:=cj (c:=W (Int.toNat (Int.tmod (F k).t (Int.ofNat w)))) (n:=9) O
   have e:Ka w W F k=bu (Int.toNat (1+av (W (Int.toNat (Int.tmod (F k).t (Int.ofNat w)))) 9)):=by
    unfold Ka CN
    rw[Nat.blt_eq.mpr m]
    rfl
   rw[<-e]
   exact cC _ _ d (cC _ _ Y (cC _ _ Y (cC _ _ g (cC _ _ (aq O O) (cC _ _ d (cC _ _ Y (cC _ _ zA (cC _ _ f (cC _ _ a (YG A ⟨pn (gW F (Ka w W F)) k (λj σ=>Rg σ F (Ka w W F) j) A,YG A ⟨λj _ σ=>zM σ W j,YG A (YG A ⟨r,Zf A (hQ b)⟩)⟩⟩))))))))))
  ·have e:Ka w W F k=[49]:=by
    have:w=0:=O
    subst this
    exact GR
   refine cC _ _ d (cC _ _ zA (cC _ _ f (cC _ _ a (YG A ⟨?_,YG A ⟨λj _ σ=>zM σ W j,YG A (YG A ⟨r,Zf A (hQ b)⟩)⟩⟩))))
   have s:=pn (e:=12) (gW F (Ka w W F)) k (λj σ=>Rg σ F (Ka w W F) j) A
   have p:gW F (Ka w W F) k=aaQ (F k) [49]:=by show aaQ (F k) (Ka w W F k)=_;rw[e]
   rw[p]at s
   exact s
 ·have e:k=n:=by omega
  subst e
  exact YG A ⟨λj _ σ=>Rg σ F _ j,YG A trivial⟩
theorem adw{n F w W}(hn:n<=400)(ht:∀j,j<n->0<=(F j).t)(a:∀j,j<w->aN .i64 (W j)=true):af PP II 19 [vo n F,.ab w 1 (ae W)] (AH.blank 12) (.ret (.ab n 12 (gW F (Ka w W F))) (AH.blank 12)):=by
 refine bY (ks:=[]) (T:=[(3004,12,K3 n F w W (Ka w W F) Int.toNat 0,LM n F (Ka w W F))]) (λσ=>⟨rfl,rfl,λj _=>Rg σ F _ j⟩) ?_
 show kb [] _ 19 [.ab n 10 (λj=>eD (F j)),.ab w 1 (ae W)] _
 rw[adv]
 refine⟨acw hn ht a,YG A (YG A ⟨λj _ σ=>zM σ W j,YG A (YG A ⟨λj _ σ=>cL σ _,cC _ _ ?_ A⟩)⟩)⟩
 rw[bW (dw n),Bool.and_true]
 exact List.all_eq_true.2 λ_ _=>rfl
def VZ(n:Nat)(F:Nat->ay)(w:Nat)(W:Nat->Int):Bool:=Nat.ble n 400&&((List.range n).all λj=>decide (0<=(F j).t))&&(List.range w).all λj=>aN .i64 (W j)
theorem aaT{n F w W}(h:VZ n F w W=true):n<=400/\(∀j,j<n->0<=(F j).t)/\∀j,j<w->aN .i64 (W j)=true:=by
 unfold VZ at h
 simp_all
noncomputable def abq:aC PP II:=aC.pure 19
 (λX args c=>match args with
  |[.ab n 10 f,.ab m 1 g]=>X.bq (fh n f&&bA m g&&VZ n (bP f) m (aM g)) (c (.ab n 12 (gW (bP f) (Ka m (aM g) (bP f)))))
  |_=>X.fail)
 λX sem hX args c h=>by
  split at h
  ·obtain⟨e,i⟩:=hX.bq _ _ h
   simp only[bf]at e
   obtain⟨⟨a,b⟩,d⟩:=e
   obtain⟨d1,j,k⟩:=aaT d
   exact⟨_,i,λ_=>rfl,λ_=>rfl,(adw d1 j k).dq ⟨fq a,cy b,trivial⟩⟩
  ·exact zR
end Go.Sx
end
section
set_option maxRecDepth 1000000
namespace Go.Sx
open Go
def Bj(a:Int)(q:Query):Query:=⟨q.nw,q.C,q.ng,q.G,a,q.fl,q.nu,q.de,0⟩
def xu(n:Nat)(K:Nat->Nat->Int)(S:Nat->Nat->List UInt8)(i:Nat):List AV:=[.ab n 1 (ae (K i)),.str (S i 0),.str (S i 1),.str (S i 2),.str (S i 3),.str (S i 4),.str (S i 5),.str (S i 6),.str (S i 7)]
theorem XF(n)(K)(S)(i)(σ):bt.le σ (xu n K S i) (xu n K S i):=⟨⟨rfl,rfl,λ_ _=>zM _ _ _⟩,rfl,rfl,rfl,rfl,rfl,rfl,rfl,rfl,trivial⟩
theorem TN(m n)(K)(S):an m (xu n K S) (xu n K S):=λi _ σ=>XF n K S i σ
noncomputable def acx(q:Query)(n k:Nat)(F:Nat->ay)(D:Nat->List UInt8)(no:Nat)(K:Nat->Nat->Int)(S:Nat->Nat->List UInt8)(j:Nat)(a C E:Nat->List UInt8):AH:=hS q n [(15,.rows k 10 (λj=>eD (F j)) .ro),(16,.rows no 9 (xu q.ng K S) (.ty 44)),(17,.rows j 2 (lh a) (.ty 30)),(18,.rows j 2 (lh C) (.ty 30)),(19,.rows j 2 (Oo E) (.ty 30))]
noncomputable def acy(q:Query)(k:Nat)(F:Nat->ay)(D:Nat->List UInt8)(n:Nat)(X:Nat->bj)(no:Nat)(i:Int)(Y1:bj)(j:Nat)(a:Int)(b:List (Nat×AV)):Tr AV:=Tr.ofList ([(1,.ab k 12 (gW F D)),(2,.ptr 14 0 0 0),(6,.own 15 k 10),(9,.own 16 no 9),(11,.fc (qL q.ng Y1) 0),(12,.own 17 j 2),(13,.own 18 j 2),(14,.own 19 j 2),(15,.int .i64 a),(59,.ab n 1 (qN q.ng X)),(60,.int .i64 (Int.ofNat n)),(61,.int .i64 i)]++b)
noncomputable def XI(q:Query)(k:Nat)(F:Nat->ay)(D:Nat->List UInt8)(n:Nat)(X:Nat->bj)(no:Nat)(K:Nat->Nat->Int)(S:Nat->Nat->List UInt8)(i:Int)(Y1:bj)(a C E:Nat->List UInt8)(m:Int->Nat)(b:Int->Int)(j:Int):St:={t:=acy q k F D n X no i Y1 (m j) (b j) [],nt:=177,H:=acx q 20 k F D no K S (m j) a C E,df:=[]}
noncomputable def XJ(q:Query)(k:Nat)(F:Nat->ay)(D:Nat->List UInt8)(n:Nat)(X:Nat->bj)(no:Nat)(K:Nat->Nat->Int)(S:Nat->Nat->List UInt8)(i:Int)(Y1:bj)(a C E:Nat->List UInt8)(r:Nat)(zE:Int):GE:=.one (.x 4 {t:=acy q k F D n X no i Y1 r zE [],nt:=177,H:=acx q 20 k F D no K S r a C E,df:=[]})
noncomputable def aaD(q:Query):aC PP II:=aC.s9 41
 (λX args c=>match args with
  |[.agg cs,.ab k 3 r]=>X.bq (qT q cs&&ct q&&(decide (q.a=1)||decide (q.a=2))&&On k r&&bX k (ka r)&&bX k (iF r)) (c (.qP [.agg [.str (bu (Ea q k (ka r) (iG r))),.str [49]],.agg [.str (bu (AY q k (iF r))),.str [49]]]))
  |_=>X.fail)
 λX sem hX args c h=>by
  split at h
  ·rename_i cs k r
   obtain⟨d,g⟩:=hX.bq _ _ h
   simp only[bf,Bool.or_eq_true,bn]at d
   obtain⟨⟨⟨⟨⟨a1,a2⟩,a0⟩,j⟩,e⟩,f⟩:=d
   obtain⟨r1,l,m⟩:=FX a2
   obtain⟨l1,l2⟩:=mi a1
   refine⟨_,g,λ_=>rfl,λσ=>?_,?_⟩
   ·show [AV.bD σ (.agg _),_]=_
    rw[l2];rfl
   ·have b:=af.dA (Jt r1 l m e f) l1 (Rf j)
    unfold CW at b
    rw[zZ a0 _ _ _ λi hi=>((yY e) i hi).1,ZW a0 _ _ _ λi hi=>((yY f) i hi).1]at b
    exact b
  ·exact zR
noncomputable def aao(q:Query)(k:Nat)(F:Nat->ay)(D:Nat->List UInt8)(m:Int->Nat)(i:Int):St:={t:=Tr.ofList [(1,.ab k 12 (gW F D)),(2,.ptr 14 0 0 0),(6,.own 15 (m i) 10),(45,.ab k 12 (gW F D)),(46,.int .i64 (Int.ofNat k)),(47,.int .i64 i)],nt:=177,H:=hS q 16 [(15,.rows (m i) 10 (λj=>eD (F j)) (.ty 48))],df:=[]}
noncomputable def aap(q:Query)(k:Nat)(F:Nat->ay)(D:Nat->List UInt8):GE:=.one (.x 0 {t:=Tr.ofList [(1,.ab k 12 (gW F D)),(2,.ptr 14 0 0 0),(6,.own 15 k 10)],nt:=177,H:=hS q 16 [(15,.rows k 10 (λj=>eD (F j)) (.ty 48))],df:=[]})
theorem abr(q)(k)(F)(D)(m)(i)(Q):(kr [] [] 23 5001 15 (aao q k F D m) (λ_=>aap q k F D) (λi=>i+1) Q i)=(ah (decide (i<Int.ofNat k)) (aa (decide (0<=i)&&decide (i<Int.ofNat k)) (aa (decide (m i<=m i)&&true&&true&&decide ((m i+1)*80<=140737488355328)&&true) (aa (aN .i64 (i+1)) (ax (m i+1) (m (i+1)) ((an (m i+1) (λc=>bif Nat.blt c (m i)then eD (F c)else List.take 10 (List.drop (0+(c-m i)*10) [AV.int .i64 (ay.t (F i.toNat)),AV.int .i64 (ay.s (F i.toNat)),AV.int .i64 (ay.v (F i.toNat)),AV.int .i64 (ay.w (F i.toNat)),AV.int .i64 (ay.o (F i.toNat)),AV.int .i64 (ay.p (F i.toNat)),AV.int .i64 (ay.d (F i.toNat)),AV.int .i64 (ay.l (F i.toNat)),AV.int .i64 (ay.h (F i.toNat)),AV.int .i64 (ay.b (F i.toNat))])) λj=>eD (F j))/\zyN q.nw (zyR q.nw (au q.C) (zyN q.ng (zyR q.ng (aR q.G) (zyI q.a (zyI q.fl (zyB q.nu (zyB q.de (zyI q.top (zyB [49] (zyB [49] (zyB [48] (zyB [49] (zyB [48] (zyB [49] (zyR 5 aA (zyI (i+1) (zyN k (zyR k (gW F D) (zyN k (zyR k (gW F D) (ax (m i+1) (m (i+1)) (zyI (Int.ofNat k) Q))))))))))))))))))))))))))) (ax (m i) k ((an (m i) (λj=>eD (F j)) λj=>eD (F j))/\zyN q.nw (zyR q.nw (au q.C) (zyN q.ng (zyR q.ng (aR q.G) (zyI q.a (zyI q.fl (zyB q.nu (zyB q.de (zyI q.top (zyB [49] (zyB [49] (zyB [48] (zyB [49] (zyB [48] (zyB [49] (zyR 5 aA (zyN k (zyR k (gW F D) (ax (m i) k True))))))))))))))))))))):=U
noncomputable def XX(q:Query)(k:Nat)(F:Nat->ay)(D:Nat->List UInt8)(n:Nat)(X:Nat->bj)(no:Nat)(K:Nat->Nat->Int)(S:Nat->Nat->List UInt8)(i:Int)(Y1:bj)(a C E:Nat->List UInt8)(m:Nat)(b:Int)(x:Int):St:={t:=acy q k F D n X no i Y1 m b [(16,.int .i64 x)],nt:=177,H:=acx q 20 k F D no K S m a C E,df:=[]}
noncomputable def Yc(q:Query)(k:Nat)(F:Nat->ay)(D:Nat->List UInt8)(n:Nat)(X:Nat->bj)(no:Nat)(K:Nat->Nat->Int)(S:Nat->Nat->List UInt8)(i:Int)(Y1:bj)(a C E:Nat->List UInt8)(m:Nat)(b:Int)(x:Int):GE:=.one (.x 6 {t:=acy q k F D n X no i Y1 m b [(16,.int .i64 x)],nt:=177,H:=acx q 20 k F D no K S m a C E,df:=[]})
theorem abt(q)(k)(F)(D)(n)(X)(no)(K)(S)(i)(Y1)(b C E)(m)(c)(e)(x)(Q):(kr [] [] 23 17032 20 (XX q k F D n X no K S i Y1 b C E m c) (λ_=>Yc q k F D n X no K S i Y1 b C E m c e) (λi=>i+1) Q x)=(let d:=(zyN m (zyR m (Oo E) (zyN m (zyR m (lh C) (zyN m (zyR m (lh b) (zyN no (zyR no (xu q.ng K S) (zyN k ((an k (λj=>eD (F j)) λj=>eD (F j))/\zyN q.nw (zyR q.nw (au q.C) (zyN q.ng (zyR q.ng (aR q.G) (zyI q.a (zyI q.fl (zyB q.nu (zyB q.de (zyI q.top (zyB [49] (zyB [49] (zyB [48] (zyB [49] (zyB [48] (zyB [49] (zyR 5 aA (zyI c (zyN q.ng (zyR q.ng (ae Y1.W) (zyN Y1.m (zyR Y1.m (az Y1.L Y1.G Y1.C) (zyN Y1.m (zyR Y1.m (ae Y1.T) (zyN n (zyR n (qN q.ng X) (zyN k (zyR k (gW F D) (zyN no (zyN m (zyI i (aH x e (zyN m (zyI (Int.ofNat n) (zyN k (zyN m True))))))))))))))))))))))))))))))))))))))))))));(ah (decide (x<Int.ofNat Y1.m)) (aa (decide (0<=x)&&decide (x<Int.ofNat Y1.m)) (aa (decide (0<=Y1.T x.toNat)&&decide (Y1.T x.toNat<Int.ofNat k)) (aa (decide (Int.toNat (Y1.T x.toNat)<k)) (aa (decide (0<=c)&&decide (c<Int.ofNat Y1.m)) (aa (decide (0<=Y1.T c.toNat)&&decide (Y1.T c.toNat<Int.ofNat k)) (aa (decide (Int.toNat (Y1.T c.toNat)<k)) (ah (decide (ay.t (F (Int.toNat (Y1.T x.toNat)))=ay.t (F (Int.toNat (Y1.T c.toNat))))) (aa (aN .i64 (x+1)) (zyN m (zyR m (Oo E) (zyN m (zyR m (lh C) (zyN m (zyR m (lh b) (zyN no (zyR no (xu q.ng K S) (zyN k ((an k (λj=>eD (F j)) λj=>eD (F j))/\zyN q.nw (zyR q.nw (au q.C) (zyN q.ng (zyR q.ng (aR q.G) (zyI q.a (zyI q.fl (zyB q.nu (zyB q.de (zyI q.top (zyB [49] (zyB [49] (zyB [48] (zyB [49] (zyB [48] (zyB [49] (zyR 5 aA (zyI c (zyN q.ng (zyR q.ng (ae Y1.W) (zyN Y1.m (zyR Y1.m (az Y1.L Y1.G Y1.C) (zyN Y1.m (zyR Y1.m (ae Y1.T) (zyN n (zyR n (qN q.ng X) (zyN k (zyR k (gW F D) (zyN no (zyN m (zyI i (zyI (x+1) (zyN m (zyI (Int.ofNat n) (zyN k (zyN m Q))))))))))))))))))))))))))))))))))))))))))))) d))))))) d)):=U
theorem ZY(q)(k)(F)(D)(n)(X)(no)(K)(S)(i)(Y1)(b C E)(m)(c)(r)(zE)(d)(j)(Q):(kr [aaD q] [(17032,20,XX q k F D n X no K S i Y1 b C E (m j) (c j) (c j),Yc q k F D n X no K S i Y1 b C E (m j) (c j) d)] 23 15007 17 (XI q k F D n X no K S i Y1 b C E m c) (λ_=>XJ q k F D n X no K S i Y1 b C E r zE) (λi=>i+1) Q j)=(let e:=(an k (λj=>eD (F j)) λj=>eD (F j));let f:=(decide (Y1.m=Y1.m)&&true&&List.all (List.range Y1.m) λi=>decide (Y1.T i=Y1.T i)&&true);(ah (decide (c j<Int.ofNat Y1.m)) (eu PP II false (aD II 23 17032) 20 (XX q k F D n X no K S i Y1 b C E (m j) (c j) (c j)) (Yc q k F D n X no K S i Y1 b C E (m j) (c j) d)/\zyN (m j) (zyR (m j) (Oo E) (zyN (m j) (zyR (m j) (lh C) (zyN (m j) (zyR (m j) (lh b) (zyN no (zyR no (xu q.ng K S) (zyN k (e/\zyN q.nw (zyR q.nw (au q.C) (zyN q.ng (zyR q.ng (aR q.G) (zyI q.a (zyI q.fl (zyB q.nu (zyB q.de (zyI q.top (zyB [49] (zyB [49] (zyB [48] (zyB [49] (zyB [48] (zyB [49] (zyR 5 aA (zyI (c j) (zyN q.ng (zyR q.ng (ae Y1.W) (zyN Y1.m (zyR Y1.m (az Y1.L Y1.G Y1.C) (zyN Y1.m (zyR Y1.m (ae Y1.T) (zyN n (zyR n (qN q.ng X) (zyN k (zyR k (gW F D) (zyN no (zyN (m j) (zyI i (zyI (c j) (zyN (m j) (zyI (Int.ofNat n) (zyN k (zyN (m j) (aa (decide (0<=c j)&&decide (c j<=d)&&decide (d<=Int.ofNat Y1.m)) (aa ((qT q [AV.ab q.nw 3 (au q.C),AV.ab q.ng 1 (aR q.G),AV.int .i64 q.a,AV.int .i64 q.fl,AV.str q.nu,AV.str q.de,AV.int .i64 q.top]&&ct q&&(decide (q.a=1)||decide (q.a=2))&&On (Int.toNat (d-c j)) λi=>az Y1.L Y1.G Y1.C (Int.toNat (c j)+i))&&bX (Int.toNat (d-c j)) (ka λi=>az Y1.L Y1.G Y1.C (Int.toNat (c j)+i))&&bX (Int.toNat (d-c j)) (iF λi=>az Y1.L Y1.G Y1.C (Int.toNat (c j)+i))) (aa (decide (m j<=m j)&&true&&true&&decide ((m j+1)*32<=140737488355328)&&true) (aa (decide (bu (AY q (Int.toNat (d-c j)) (iF λi=>az Y1.L Y1.G Y1.C (Int.toNat (c j)+i)))=bu (AY q (Int.toNat (d-c j)) (iF λi=>az Y1.L Y1.G Y1.C (Int.toNat (c j)+i))))&&true) (aa (decide (m j<=m j)&&true&&true&&decide ((m j+1)*32<=140737488355328)&&true) (aa f (aa f (aa (decide (0<=c j)&&decide (c j<Int.ofNat Y1.m)) (aa (decide (Y1.T (Int.toNat (c j))=Y1.T (Int.toNat (c j)))) (aa (decide (Y1.T (Int.toNat (c j))=Y1.T (Int.toNat (c j)))) (aa (decide (0<=Y1.T (Int.toNat (c j)))&&decide (Y1.T (Int.toNat (c j))<Int.ofNat k)) (aa (decide (D (Int.toNat (Y1.T (Int.toNat (c j))))=D (Int.toNat (Y1.T (Int.toNat (c j)))))&&true) (aa (decide (D (Int.toNat (Y1.T (Int.toNat (c j))))=D (Int.toNat (Y1.T (Int.toNat (c j)))))&&true) (aa (decide (m j<=m j)&&true&&true&&decide ((m j+1)*32<=140737488355328)&&true) (ax (m j+1) (m (j+1)) (an (m j+1) (λi=>bif Nat.blt i (m j)then Oo E i else List.take 2 (List.drop (0+(i-m j)*2) [AV.str [49],AV.str (D (Int.toNat (Y1.T (Int.toNat (c j)))))])) (Oo E)/\ax (m j+1) (m (j+1)) (an (m j+1) (λi=>bif Nat.blt i (m j)then lh C i else List.take 2 (List.drop (0+(i-m j)*2) [AV.str (bu (AY q (Int.toNat (d-c j)) (iF λi=>az Y1.L Y1.G Y1.C (Int.toNat (c j)+i)))),AV.str [49]])) (lh C)/\ax (m j+1) (m (j+1)) (an (m j+1) (λi=>bif Nat.blt i (m j)then lh b i else List.take 2 (List.drop (0+(i-m j)*2) [AV.str (bu (Ea q (Int.toNat (d-c j)) (ka λi=>az Y1.L Y1.G Y1.C (Int.toNat (c j)+i)) (iG λi=>az Y1.L Y1.G Y1.C (Int.toNat (c j)+i)))),AV.str [49]])) (lh b)/\zyN no (zyR no (xu q.ng K S) (zyN k (e/\zyN q.nw (zyR q.nw (au q.C) (zyN q.ng (zyR q.ng (aR q.G) (zyI q.a (zyI q.fl (zyB q.nu (zyB q.de (zyI q.top (zyB [49] (zyB [49] (zyB [48] (zyB [49] (zyB [48] (zyB [49] (zyR 5 aA (aH d (c (j+1)) (zyN q.ng (zyR q.ng (ae Y1.W) (zyN Y1.m (zyR Y1.m (az Y1.L Y1.G Y1.C) (zyN Y1.m (zyR Y1.m (ae Y1.T) (zyN n (zyR n (qN q.ng X) (zyN k (zyR k (gW F D) (zyN no (ax (m j+1) (m (j+1)) (zyI i (ax (m j+1) (m (j+1)) (zyI (Int.ofNat n) (zyN k (ax (m j+1) (m (j+1)) Q)))))))))))))))))))))))))))))))))))))))))))))))))))))))))))))))))))))))))))))))))))))))))))))))))) (ax (m j) r (zyR (m j) (Oo E) (ax (m j) r (zyR (m j) (lh C) (ax (m j) r (zyR (m j) (lh b) (zyN no (zyR no (xu q.ng K S) (zyN k (e/\zyN q.nw (zyR q.nw (au q.C) (zyN q.ng (zyR q.ng (aR q.G) (zyI q.a (zyI q.fl (zyB q.nu (zyB q.de (zyI q.top (zyB [49] (zyB [49] (zyB [48] (zyB [49] (zyB [48] (zyB [49] (zyR 5 aA (aH (c j) zE (zyN q.ng (zyR q.ng (ae Y1.W) (zyN Y1.m (zyR Y1.m (az Y1.L Y1.G Y1.C) (zyN Y1.m (zyR Y1.m (ae Y1.T) (zyN n (zyR n (qN q.ng X) (zyN k (zyR k (gW F D) (zyN no (ax (m j) r (zyI i (ax (m j) r (zyI (Int.ofNat n) (zyN k (ax (m j) r True))))))))))))))))))))))))))))))))))))))))))))):=U
noncomputable def ZZ(q:Query)(k:Nat)(F:Nat->ay)(D:Nat->List UInt8)(n:Nat)(X:Nat->bj)(K:Nat->Nat->Int)(S:Nat->Nat->List UInt8)(N:Int->Nat)(i:Int):St:={t:=Tr.ofList [(1,.ab k 12 (gW F D)),(2,.ptr 14 0 0 0),(6,.own 15 k 10),(9,.own 16 (N i) 9),(59,.ab n 1 (qN q.ng X)),(60,.int .i64 (Int.ofNat n)),(61,.int .i64 i)],nt:=177,H:=hS q 17 [(15,.rows k 10 (λj=>eD (F j)) .ro),(16,.rows (N i) 9 (xu q.ng K S) (.ty 44))],df:=[]}
noncomputable def Z0(q:Query)(n:Nat)(K:Nat->Nat->Int)(S:Nat->Nat->List UInt8):GE:=.one (.x 2 {t:=Tr.ofList [(9,.own 16 n 9)],nt:=177,H:=hS q 17 [(16,.rows n 9 (xu q.ng K S) (.ty 44))],df:=[]})
theorem Z1(q)(k)(F)(D)(n)(X)(K)(S)(N)(b C E)(m)(c)(r)(zE)(i)(Q):(kr [Wx] [(15007,17,XI q k F D n X (N i) K S i (X i.toNat) b C E m c 0,XJ q k F D n X (N i) K S i (X i.toNat) b C E r zE)] 23 11001 16 (ZZ q k F D n X K S N) (λ_=>Z0 q n K S) (λi=>i+1) Q i)=(let e:=((List.all (List.range r) λi=>bt.free (Oo E i))&&decide (r<=r));let f:=(an k (λj=>eD (F j)) λj=>eD (F j));(ah (decide (i<Int.ofNat n)) (aa (decide (0<=i)&&decide (i<Int.ofNat n)) (eu PP II false (aD II 23 15007) 17 (XI q k F D n X (N i) K S i (X i.toNat) b C E m c 0) (XJ q k F D n X (N i) K S i (X i.toNat) b C E r zE)/\ax (m 0) 0 (ax (m 0) 0 (ax (m 0) 0 (zyN (N i) (zyR (N i) (xu q.ng K S) (zyN k (f/\zyN q.nw (zyR q.nw (au q.C) (zyN q.ng (zyR q.ng (aR q.G) (zyI q.a (zyI q.fl (zyB q.nu (zyB q.de (zyI q.top (zyB [49] (zyB [49] (zyB [48] (zyB [49] (zyB [48] (zyB [49] (zyR 5 aA (aH 0 (c 0) (zyN q.ng (zyR q.ng (ae (bj.W (X i.toNat))) (zyN (bj.m (X i.toNat)) (zyR (bj.m (X i.toNat)) (az (bj.L (X i.toNat)) (bj.G (X i.toNat)) (bj.C (X i.toNat))) (zyN (bj.m (X i.toNat)) (zyR (bj.m (X i.toNat)) (ae (bj.T (X i.toNat))) (zyN n (zyR n (qN q.ng X) (zyN k (zyR k (gW F D) (zyN (N i) (ax (m 0) 0 (zyI i (ax (m 0) 0 (zyI (Int.ofNat n) (zyN k (ax (m 0) 0 (aa ((List.all (List.range r) λi=>bt.free (lh b i))&&decide (r<=r)) (aa e (aa (Nat.beq r r&&Nat.ble r 400&&Vj r (lh b)&&TC r (Oo E)) (aa ((List.all (List.range r) λi=>bt.free (lh C i))&&decide (r<=r)) (aa e (aa (Nat.beq r r&&Nat.ble r 400&&Vj r (lh C)&&TC r (Oo E)) (aa (decide (N i<=N i)&&true&&true&&decide ((N i+1)*152<=140737488355328)&&true) (aa (aN .i64 (i+1)) (ax (N i+1) (N (i+1)) (an (N i+1) (λd=>bif Nat.blt d (N i)then xu q.ng K S d else List.take 9 (List.drop (0+(d-N i)*9) [AV.ab q.ng 1 (ae (bj.W (X i.toNat))),AV.str (bu (pM (Pb (pS (lh b)) (R4 (Oo E))) r)),AV.str [49],AV.str (bu (pM (Pb (pS (lh C)) (R4 (Oo E))) r)),AV.str [49],AV.str (bu (pM (P3 (pS (lh b)) (R4 (Oo E))) r)),AV.str [49],AV.str (bu (pM (P3 (pS (lh C)) (R4 (Oo E))) r)),AV.str [49]])) (xu q.ng K S)/\zyN k (f/\zyN q.nw (zyR q.nw (au q.C) (zyN q.ng (zyR q.ng (aR q.G) (zyI q.a (zyI q.fl (zyB q.nu (zyB q.de (zyI q.top (zyB [49] (zyB [49] (zyB [48] (zyB [49] (zyB [48] (zyB [49] (zyR 5 aA (zyN n (zyR n (qN q.ng X) (zyN k (zyR k (gW F D) (ax (N i+1) (N (i+1)) (zyI (i+1) (zyI (Int.ofNat n) (zyN k Q))))))))))))))))))))))))))))))))))))))))))))))))))))))))))))))))))))))))))) (ax (N i) n (zyR (N i) (xu q.ng K S) (zyN q.nw (zyR q.nw (au q.C) (zyN q.ng (zyR q.ng (aR q.G) (zyI q.a (zyI q.fl (zyB q.nu (zyB q.de (zyI q.top (zyB [49] (zyB [49] (zyB [48] (zyB [49] (zyB [48] (zyB [49] (zyR 5 aA (ax (N i) n True))))))))))))))))))))):=U
theorem adx(a)(q)(k)(F)(D)(n)(X)(m)(K)(S)(N)(Q):(Xm [u5 (Bj a q),ac4,J7 (Bj a q) n X] [(5001,15,aao (Bj a q) k F D m 0,aap (Bj a q) k F D),(11001,16,ZZ (Bj a q) k F D n X K S N 0,Z0 (Bj a q) n K S)] 23 [.agg (aY (Bj a q)),.ab k 12 (gW F D)] Q)=(let b:=(eT.cells [AV.str [48],AV.str [49]] Access.ro);let c:=(aa (aan k (gW F D)&&cX k (Oq (gW F D))&&VS k (Oq (gW F D)) (VO (gW F D))) (eu PP II false (aD II 23 5001) 15 (aao (Bj a q) k F D m 0) (aap (Bj a q) k F D)/\ax (m 0) 0 (zyN q.nw (zyR q.nw (au q.C) (zyN q.ng (zyR q.ng (aR q.G) (zyI a (zyI q.fl (zyB q.nu (zyB q.de (zyB [49] (zyB [49] (zyB [48] (zyB [49] (zyB [48] (zyB [49] (zyR 5 aA (zyN k (zyR k (gW F D) (zyN k (zyR k (gW F D) (ax (m 0) 0 (zyI (Int.ofNat k) (aa ((List.all (List.range k) λi=>bt.free (eD (F i)))&&decide (k<=k)) (aa ((qT (Bj a q) [AV.ab q.nw 3 (au q.C),AV.ab q.ng 1 (aR q.G),AV.int .i64 a,AV.int .i64 q.fl,AV.str q.nu,AV.str q.de,AV.int .i64 0]&&ct (Bj a q)&&Nat.ble k 1000000&&Ik k λj=>eD (F j))&&J6 (Bj a q) n X k λj=>eD (F j)) (eu PP II false (aD II 23 11001) 16 (ZZ (Bj a q) k F D n X K S N 0) (Z0 (Bj a q) n K S)/\ax (N 0) 0 (zyN k ((an k (λj=>eD (F j)) λj=>eD (F j))/\zyN q.nw (zyR q.nw (au q.C) (zyN q.ng (zyR q.ng (aR q.G) (zyI a (zyI q.fl (zyB q.nu (zyB q.de (zyB [49] (zyB [49] (zyB [48] (zyB [49] (zyB [48] (zyB [49] (zyR 5 aA (zyN n (zyR n (qN q.ng X) (zyN k (zyR k (gW F D) (ax (N 0) 0 (zyI (Int.ofNat n) (zyN k (aa ((List.all (List.range n) λi=>bt.free (xu q.ng K S i))&&decide (n<=n)) (aa (FY (eT.cells [AV.ab 5 2 aA] Access.ro) b (eT.cells [AV.int .i64 7,AV.int .i64 9,AV.int .i64 11,AV.int .i64 99] Access.ro) (eT.cells [AV.map (some 13)] Access.ro) (eT.cells [AV.int .u64 1,AV.int .u64 10,AV.int .u64 100,AV.int .u64 1000,AV.int .u64 10000,AV.int .u64 100000,AV.int .u64 1000000,AV.int .u64 10000000,AV.int .u64 100000000,AV.int .u64 1000000000,AV.int .u64 10000000000,AV.int .u64 100000000000,AV.int .u64 1000000000000,AV.int .u64 10000000000000,AV.int .u64 100000000000000,AV.int .u64 1000000000000000,AV.int .u64 10000000000000000,AV.int .u64 100000000000000000,AV.int .u64 1000000000000000000,AV.int .u64 10000000000000000000] (Access.ex 20)) b (eT.cells [AV.str [49],AV.str [49]] Access.ro) (eT.map OZ)) (Q (AV.qP [AV.ab n 9 (xu q.ng K S),AV.int .i64 0])))))))))))))))))))))))))))))))))))))))))))))))))))));(aa (qT (Bj a q) [AV.ab q.nw 3 (au q.C),AV.ab q.ng 1 (aR q.G),AV.int .i64 a,AV.int .i64 q.fl,AV.str q.nu,AV.str q.de,AV.int .i64 0]&&ct (Bj a q)) (ah (!decide (a=1)) (ah (!decide (a=2)) (aa (FY (eT.cells [AV.ab 5 2 aA] Access.ro) b (eT.cells [AV.int .i64 7,AV.int .i64 9,AV.int .i64 11,AV.int .i64 99] Access.ro) (eT.cells [AV.map (some 13)] Access.ro) (eT.cells [AV.int .u64 1,AV.int .u64 10,AV.int .u64 100,AV.int .u64 1000,AV.int .u64 10000,AV.int .u64 100000,AV.int .u64 1000000,AV.int .u64 10000000,AV.int .u64 100000000,AV.int .u64 1000000000,AV.int .u64 10000000000,AV.int .u64 100000000000,AV.int .u64 1000000000000,AV.int .u64 10000000000000,AV.int .u64 100000000000000,AV.int .u64 1000000000000000,AV.int .u64 10000000000000000,AV.int .u64 100000000000000000,AV.int .u64 1000000000000000000,AV.int .u64 10000000000000000000] (Access.ex 20)) b (eT.cells [AV.str [49],AV.str [49]] Access.ro) (eT.map OZ)) (Q (AV.qP [AV.aw,AV.int .i64 200]))) c) c))):=U
end Go.Sx
end
section
set_option maxRecDepth 1000000
namespace Go.Sx
open Go
theorem abu{q k F D}(b:k<=400):eu PP II false (aD II 23 5001) 15 (aao q k F D Int.toNat 0) (aap q k F D):=by
 refine eu.wL [] (n:=k) A λa ha Q hQ=>?_
 have c:Int.ofNat k=(k:Int):=rfl
 rw[abr,show Int.toNat (a:Int)=a from rfl,show Int.toNat ((a:Int)+1)=a+1 by omega]
 refine Zg (λh=>?_) λh=>?_
 ·have hn:=hQ O
  have sn:=pn (λj=>eD (F j)) a (λj σ=>cL σ _) A
  refine cC _ _ Y (cC _ _ Y (cC _ _ (aq O O) (YG A ⟨sn,?_⟩)))
  repeat' (with_reducible first|exact hn|exact Rz _ _ _|exact bC _ _|exact bO _ _|exact aZ|refine Zi A ?_|refine Zf A ?_|refine YG A ?_|refine And.intro ?_ ?_)
 ·have e:a=k:=by omega
  subst e
  repeat' (with_reducible first|exact trivial|exact Rz _ _ _|exact nf _ _|exact bC _ _|exact bO _ _|exact aZ|refine Zi A ?_|refine Zf A ?_|refine YG A ?_|refine And.intro ?_ ?_)
theorem abv{q k F D}(n)(X)(no)(K)(S)(i){Y1}(b C E)(m){s:Nat}(j:s<Y1.m)(l:Wz k Y1)(y:Y1.m<=1000):
  eu PP II false (aD II 23 17032) 20 (XX q k F D n X no K S i Y1 b C E m (s:Int) (s:Int)) (Yc q k F D n X no K S i Y1 b C E m (s:Int) (vc (Hp F Y1) Y1.m s:Nat)):=by
 obtain⟨r1,u,o,r⟩:=xn (Hp F Y1) j
 generalize vc (Hp F Y1) Y1.m s=e at r1 u o r⊢
 have key:=eu.of (ι:=Int) Hs [] (bm PP II []) 1000 (c:=aD II 23 17032) (ir:=false) 20 (λx=> ∃a:Nat,x=(a:Int)/\s<=a/\a<=e) (λx=>XX q k F D n X no K S i Y1 b C E m (s:Int) x) (λ_=>Yc q k F D n X no K S i Y1 b C E m (s:Int) (e:Nat)) (λx=>e-x.toNat) (λx=>x+1) (s:Int) A ⟨s,rfl,dw s,Nat.le_of_lt r1⟩ λp v=>?_
 ·exact key
 have B:Int.ofNat k=(k:Int):=rfl
 have G:Int.ofNat Y1.m=(Y1.m:Int):=rfl
 obtain⟨a,rfl,w,t⟩:=v
 have go:∀Q:Prop,(a<e->Q)->kr [] [] 23 17032 20 (XX q k F D n X no K S i Y1 b C E m (s:Int)) (λ_=>Yc q k F D n X no K S i Y1 b C E m (s:Int) (e:Nat)) (λi=>i+1) Q (a:Int):=λQ hQ=>by
  rw[abt,show Int.toNat (a:Int)=a from rfl,show Int.toNat (s:Int)=s from rfl]
  refine Zg (λh=>?_) λh=>?_
  ·have g:a<Y1.m:=by omega
   obtain⟨t1,t2⟩:=l a g
   obtain⟨H,I⟩:=l s j
   refine cC _ _ Y (cC _ _ Y (cC _ _ Y (cC _ _ Y (cC _ _ Y (cC _ _ Y ?_)))))
   refine Zg (λh=>?_) λh=>?_
   ·have f:a<e:=by
     rcases Nat.lt_or_eq_of_le t with d|d
     ·exact d
     ·subst d;exact absurd h (r g)
    have hn:=hQ f
    refine cC _ _ (aq O O) ?_
    repeat' (with_reducible first|exact hn|exact Rz _ _ _|exact nf _ _|exact S0 _ _ _|exact dP _ _ _ _|exact OL _ _|exact Zv _ _|exact TN _ _ _ _|exact bL _ _|exact bC _ _|exact bO _ _|exact aZ|refine Zi A ?_|refine Zf A ?_|refine YG A ?_|refine And.intro ?_ ?_)
   ·have f:a=e:=by
     rcases Nat.lt_or_eq_of_le t with d|d
     ·exact absurd (o a w d) h
     ·exact d
    subst f
    exact ZN
  ·have f:a=e:=by omega
   subst f
   exact ZN
 grind
noncomputable def Ot(q:Query)(F:Nat->ay)(Y1:bj)(j:Nat):Nat:=Ea q (jy (Hp F Y1) Y1.m (j+1)-jy (Hp F Y1) Y1.m j) (λi=>Y1.L (jy (Hp F Y1) Y1.m j+i)) (λi=>Y1.C (jy (Hp F Y1) Y1.m j+i))
noncomputable def Ov(q:Query)(F:Nat->ay)(Y1:bj)(j:Nat):Nat:=AY q (jy (Hp F Y1) Y1.m (j+1)-jy (Hp F Y1) Y1.m j) (λi=>Y1.G (jy (Hp F Y1) Y1.m j+i))
noncomputable def SY(F:Nat->ay)(D:Nat->List UInt8)(Y1:bj)(j:Nat):List UInt8:=D (Y1.T (jy (Hp F Y1) Y1.m j)).toNat
theorem aaU{q k F D}(n)(X)(no)(K)(S)(i){Y1}(b C E)(m)(c)(r)(zE)(j)(a s e:Nat)(hq:ct q=true)(ha:q.a=1∨q.a=2)(l:Wz k Y1)(V:Y1.m<=1000)(hL:fA Y1.L Y1.m)(hG:fA Y1.G Y1.m)
  (o:m j=a) (p:m (j+1)=a+1) (z0:c j=(s:Int)) (t:c (j+1)=(e:Int)) (W:a<=1000) (Y:s<e) (Z:e<=Y1.m) (u:eu PP II false (aD II 23 17032) 20 (XX q k F D n X no K S i Y1 b C E a (s:Int) (s:Int)) (Yc q k F D n X no K S i Y1 b C E a (s:Int) (e:Int)))
  (v:b a=bu (Ea q (e-s) (ka λi=>az Y1.L Y1.G Y1.C (s+i)) (iG λi=>az Y1.L Y1.G Y1.C (s+i)))) (w:C a=bu (AY q (e-s) (iF λi=>az Y1.L Y1.G Y1.C (s+i)))) (x:E a=D (Y1.T s).toNat) (Q) (hn:Q):
  kr [aaD q] [(17032,20,XX q k F D n X no K S i Y1 b C E (m j) (c j) (c j),Yc q k F D n X no K S i Y1 b C E (m j) (c j) (e:Int))] 23 15007 17 (XI q k F D n X no K S i Y1 b C E m c) (λ_=>XJ q k F D n X no K S i Y1 b C E r zE) (λi=>i+1) Q j:=by
 have em:Int.ofNat Y1.m=(Y1.m:Int):=rfl
 have ek:Int.ofNat k=(k:Int):=rfl
 obtain⟨t3,t4⟩:=l s O
 have d1:Int.toNat ((e:Int)-(s:Int))=e-s:=O
 have d:=pn (lh b) a (λj σ=>tn σ _ j) A
 have f:=pn (lh C) a (λj σ=>tn σ _ j) A
 have g:=pn (Oo E) a (λj σ=>Wu σ _ j) A
 unfold lh at d f
 unfold Oo at g
 rw[x]at g
 rw[v]at d
 rw[w]at f
 have y:(decide (a<=a)&&true&&true&&decide ((a+1)*32<=140737488355328)&&true)=true:=by rw[bW (dw a),bW O];rfl
 have B:(decide (0<=(s:Int))&&decide ((s:Int)<=(e:Int))&&decide ((e:Int)<=Int.ofNat Y1.m))=true:=by simp only[bf,bn];omega
 have H:(decide (0<=(s:Int))&&decide ((s:Int)<Int.ofNat Y1.m))=true:=by simp only[bf,bn];omega
 have I:(decide (0<=Y1.T s)&&decide (Y1.T s<Int.ofNat k))=true:=by simp only[bf,bn];omega
 have J:(On (e-s) λi=>az Y1.L Y1.G Y1.C (s+i))=true:=List.all_eq_true.2 λ_ _=>rfl
 have N:(bX (e-s) (ka λi=>az Y1.L Y1.G Y1.C (s+i)))=true:=xq O λi hi=>hL (s+i) O
 have P:(bX (e-s) (iF λi=>az Y1.L Y1.G Y1.C (s+i)))=true:=xq O λi hi=>hG (s+i) O
 have R:(decide (q.a=1)||decide (q.a=2))=true:=by simpa using ha
 have U:(decide (Y1.m=Y1.m)&&true&&List.all (List.range Y1.m) λi=>decide (Y1.T i=Y1.T i)&&true)=true:=zA
 rw[ZY,o,p,z0,t,d1,show Int.toNat (s:Int)=s from rfl,jv,hq,R,J,y,B,H,I,U,bW (rfl:Y1.T s=Y1.T s),bW (rfl:bu (AY q (e-s) (iF λi=>az Y1.L Y1.G Y1.C (s+i)))=bu (AY q (e-s) (iF λi=>az Y1.L Y1.G Y1.C (s+i)))),bW (rfl:D (Y1.T s).toNat=D (Y1.T s).toNat)]
 refine Zg (λh=>?_) O
 refine⟨u,?_⟩
 repeat' (first|with_reducible exact hn|exact g|exact d|exact f|with_reducible refine cC _ _ A ?_|refine cC _ _ (by rw[N,P];rfl) ?_|with_reducible exact Rz _ _ _|with_reducible exact nf _ _|with_reducible exact S0 _ _ _|with_reducible exact dP _ _ _ _|with_reducible exact OL _ _|with_reducible exact Zv _ _|with_reducible exact TN _ _ _ _|with_reducible exact bL _ _|with_reducible exact bC _ _|with_reducible exact bO _ _|with_reducible exact aZ|with_reducible refine Zi A ?_|with_reducible refine Zf A ?_|with_reducible refine YG A ?_|with_reducible refine And.intro ?_ ?_)
theorem acz{q k F D}(n)(X)(no)(K)(S)(i){Y1}(a C E)(m)(b)(r)(j c)(d:m j=r)(z0:b j=(Y1.m:Int))(Q):
  kr [aaD q] [(17032,20,XX q k F D n X no K S i Y1 a C E (m j) (b j) (b j),Yc q k F D n X no K S i Y1 a C E (m j) (b j) c)] 23 15007 17 (XI q k F D n X no K S i Y1 a C E m b) (λ_=>XJ q k F D n X no K S i Y1 a C E r (Y1.m:Nat)) (λi=>i+1) Q j:=by
 have e:Int.ofNat Y1.m=(Y1.m:Int):=rfl
 rw[ZY,d,z0]
 refine Zg O λh=>?_
 exact ZN
theorem abw{q k F D}(n)(X)(no)(K)(S)(i){Y1 r}(hq:ct q=true)(ha:q.a=1∨q.a=2)(e:Wz k Y1)(f:Y1.m<=1000)(hL:fA Y1.L Y1.m)(hG:fA Y1.G Y1.m)
  (s:r<=Y1.m) (t:jy (Hp F Y1) Y1.m r=Y1.m) (rs:∀j,j<r->jy (Hp F Y1) Y1.m j<Y1.m/\jy (Hp F Y1) Y1.m (j+1)=vc (Hp F Y1) Y1.m (jy (Hp F Y1) Y1.m j)):
  eu PP II false (aD II 23 15007) 17 (XI q k F D n X no K S i Y1 (λj=>bu (Ot q F Y1 j)) (λj=>bu (Ov q F Y1 j)) (SY F D Y1) Int.toNat (λj=>(jy (Hp F Y1) Y1.m j.toNat:Nat)) 0) (XJ q k F D n X no K S i Y1 (λj=>bu (Ot q F Y1 j)) (λj=>bu (Ov q F Y1 j)) (SY F D Y1) r (Y1.m:Nat)):=by
 have key:=eu.Vk (ι:=Int) Hs [aaD q] 1000 (λj=>[(17032,20,XX q k F D n X no K S i Y1 (λj=>bu (Ot q F Y1 j)) (λj=>bu (Ov q F Y1 j)) (SY F D Y1) j.toNat (jy (Hp F Y1) Y1.m j.toNat:Nat) (jy (Hp F Y1) Y1.m j.toNat:Nat),Yc q k F D n X no K S i Y1 (λj=>bu (Ot q F Y1 j)) (λj=>bu (Ov q F Y1 j)) (SY F D Y1) j.toNat (jy (Hp F Y1) Y1.m j.toNat:Nat) (vc (Hp F Y1) Y1.m (jy (Hp F Y1) Y1.m j.toNat):Nat))]) (c:=aD II 23 15007) (ir:=false) 17 (λj=> ∃a:Nat,j=(a:Int)/\a<=r) (λj=>XI q k F D n X no K S i Y1 (λj=>bu (Ot q F Y1 j)) (λj=>bu (Ov q F Y1 j)) (SY F D Y1) Int.toNat (λj=>(jy (Hp F Y1) Y1.m j.toNat:Nat)) j) (λ_=>XJ q k F D n X no K S i Y1 (λj=>bu (Ot q F Y1 j)) (λj=>bu (Ov q F Y1 j)) (SY F D Y1) r (Y1.m:Nat)) (λj=>r-j.toNat) (λj=>j+1) 0 A ⟨0,rfl,Nat.zero_le r⟩ λp l=>?_
 ·exact key
 obtain⟨a,rfl,d⟩:=l
 rcases Nat.lt_or_eq_of_le d with b|b
 ·obtain⟨g,h⟩:=rs a b
  obtain⟨e1,o,_,_⟩:=xn (Hp F Y1) g
  exact aaU n X no K S i _ _ _ Int.toNat (λj=>(jy (Hp F Y1) Y1.m j.toNat:Nat)) r _ (a:Int) a _ _ hq ha e f hL hG A O A Y O e1 o (abv n X no K S i _ _ _ a g e f) (by show bu (Ot q F Y1 a)=_;unfold Ot;rw[h];rfl) (by show bu (Ov q F Y1 a)=_;unfold Ov;rw[h];rfl) A _ Y
 ·subst b
  exact acz n X no K S i _ _ _ Int.toNat (λj=>(jy (Hp F Y1) Y1.m j.toNat:Nat)) a (a:Int) _ A Y _
end Go.Sx
end
section
set_option maxRecDepth 1000000
namespace Go.Sx
open Go
noncomputable def Ls(Z:Nat->Int)(m:Nat):Nat:=Classical.choose (Rj Z m)
theorem HA(Z:Nat->Int)(m:Nat):Ls Z m<=m/\jy Z m (Ls Z m)=m/\∀j,j<Ls Z m->jy Z m j<m/\jy Z m (j+1)=vc Z m (jy Z m j):=Classical.choose_spec (Rj Z m)
theorem Lt(n:Nat)(a:Nat->List UInt8):(List.all (List.range n) (λi=>bt.free (lh a i))&&decide (n<=n))=true:=by
 rw[bW (dw n),Bool.and_true]
 exact List.all_eq_true.2 λ_ _=>rfl
open Classical in
noncomputable def Bq(q:Query)(RN:Nat)(RA:Nat->Nat->Int)(RB:Nat->Nat->List UInt8)(k:Nat)(h:Nat->List AV):Bool:=decide (r8 q k (bP h)=RN/\FM q k (bP h)=RA/\oU q k (bP h)=RB)
open Classical in
theorem zO{q:Query}{RN:Nat}{RA:Nat->Nat->Int}{RB:Nat->Nat->List UInt8}{k:Nat}{h:Nat->List AV}:Bq q RN RA RB k h=true↔r8 q k (bP h)=RN/\FM q k (bP h)=RA/\oU q k (bP h)=RB:=by
 unfold Bq
 exact decide_eq_true_iff
noncomputable def Vo(q:Query)(RN:Nat)(RA:Nat->Nat->Int)(RB:Nat->Nat->List UInt8):aC PP II:=aC.s9 13
 (λX args a=>match args with
  |[.agg cs,.ab k 10 h]=>X.bq (qT q cs&&ct q&&fh k h&&cX k (bP h)&&Bq q RN RA RB k h) (a (.qP [.ab RN 9 (aX q.ng RA RB),.int .i64 0]))
  |_=>X.fail)
 λX sem hX args a h=>by
  split at h
  ·obtain⟨b,c⟩:=hX.bq _ _ h
   simp only[bf]at b
   obtain⟨⟨⟨⟨a1,a2⟩,d⟩,e⟩,f⟩:=b
   obtain⟨g,i,j⟩:=zO.1 f
   obtain⟨l1,l2⟩:=mi a1
   rw[<-g,<-i,<-j]at c
   refine⟨_,c,λ_=>rfl,λσ=>?_,af.dA (A8 a2 e) l1 (fq d)⟩
   show [AV.bD σ (.agg _),_]=_
   rw[l2];rfl
  ·exact zR
end Go.Sx
end
