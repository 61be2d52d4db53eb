/- Lemmas, part 40. -/
import Derived.Test.YtoijalagmmgkbaaGreatDoorX39
set_option linter.all false
set_option linter.defProp false
set_option maxRecDepth 1000000
namespace Go.Sx
open Go
open Int renaming toNat->M,ofNat->a_
open Decidable renaming decide->z
open List renaming range->b_,find?_some->k_,all->l_
open Tr renaming ofList->c_
open Nat renaming lt_or_eq_of_le->d_,beq->g_,zero_le->i_
open AV renaming str->e_
open Go.IntKind renaming i64->f_
open Bool renaming and_true->h_
noncomputable section
def ady(r)(E):((l_ (b_ r) λi=>bt.free (Oo E i))&&z (r<=r))=true:=by
 rw[bW (dw r),h_]
 exact List.all_eq_true.2 λ_ _=>rfl
def Gq(q:Query)(F:Nat->ay)(D:Nat->List UInt8)(Y1:bj)(k:Nat):Nat:=match k with
 |0=>pM (Pb (λl=>bu (Ot q F Y1 l)) (SY F D Y1)) (Ls (Hp F Y1) Y1.m)
 |1=>pM (Pb (λl=>bu (Ov q F Y1 l)) (SY F D Y1)) (Ls (Hp F Y1) Y1.m)
 |2=>pM (P3 (λl=>bu (Ot q F Y1 l)) (SY F D Y1)) (Ls (Hp F Y1) Y1.m)
 |_=>pM (P3 (λl=>bu (Ov q F Y1 l)) (SY F D Y1)) (Ls (Hp F Y1) Y1.m)
def Zu(q:Query)(F:Nat->ay)(D:Nat->List UInt8)(X:Nat->bj)(i k:Nat):List UInt8:=match k with
 |0=>bu (Gq q F D (X i) 0)
 |1=>[49]
 |2=>bu (Gq q F D (X i) 1)
 |3=>[49]
 |4=>bu (Gq q F D (X i) 2)
 |5=>[49]
 |6=>bu (Gq q F D (X i) 3)
 |_=>[49]
def aaV{q k F D}(n)(X)(K)(S)(N)(b C E)(m)(c)(r)(zE)(i)(a:Nat)(hi:i=(a:Int))(g:a<n)(hn:n<=400)(l:N i=a)(d:N (i+1)=a+1)(o:r<=400)(p:m 0=0)(z0:0=c 0)
  (s:eu PP II false (aD II 23 15007) 17 (XI q k F D n X a K S i (X a) b C E m c 0) (XJ q k F D n X a K S i (X a) b C E r zE)) (e:Sw r b E) (f:Sw r C E) (t:K a=(X a).W) (u:S a 0=bu (pM (Pb b E) r)) (v:S a 1=[49]) (w:S a 2=bu (pM (Pb C E) r)) (x:S a 3=[49]) (y:S a 4=bu (pM (P3 b E) r)) (B:S a 5=[49]) (G:S a 6=bu (pM (P3 C E) r)) (H:S a 7=[49]) (Q) (hQ:Q):
  kr [Wx] [(15007,17,XI q k F D n X (N i) K S i (X (M i)) b C E m c 0,XJ q k F D n X (N i) K S i (X (M i)) b C E r zE)] 23 11001 16 (ZZ q k F D n X K S N) (λ_=>Z0 q n K S) (λi=>i+1) Q i:=by
 have Y:a_ n=(n:Int):=rfl
 have I:M i=a:=O
 have sn:=pn (xu q.ng K S) a (λj σ=>XF _ _ _ j σ) A
 unfold xu at sn
 rw[u,v,w,x,y,B,G,H,t]at sn
 obtain⟨J,L⟩:=XA e
 obtain⟨P,_⟩:=XA f
 have R:(z (a<=a)&&true&&true&&z ((a+1)*152<=140737488355328)&&true)=true:=by rw[bW (dw a),bW O];rfl
 have bi:aN f_ (i+1)=true:=aq O O
 have T:(z (0<=i)&&z (i<a_ n))=true:=by simp only[bf,bn];omega
 rw[Z1,I,l,d,p,J,P,L,R,bi,T,ni,kV o]
 have f1:=Lt r b
 have U:=Lt r C
 have V:=ady r E
 refine Zg (λh=>?_) O
 refine cC _ _ A ⟨s,?_⟩
 repeat' (first|with_reducible exact hQ|exact sn|with_reducible refine cC _ _ f1 ?_|with_reducible refine cC _ _ U ?_|with_reducible refine cC _ _ V ?_|with_reducible refine cC _ _ A ?_|with_reducible exact Rz _ _ _|with_reducible exact nf _ _|with_reducible exact S0 _ _ _|with_reducible exact dP _ _ _ _|with_reducible exact TN _ _ _ _|with_reducible exact bL _ _|with_reducible exact bC _ _|with_reducible exact bO _ _|with_reducible exact aZ|with_reducible refine Zi A ?_|with_reducible refine Zf A ?_|with_reducible refine Zf z0 ?_|with_reducible refine YG A ?_|with_reducible refine And.intro ?_ ?_)
def acA{q k F D}(n:Nat)(X)(K)(S)(N)(a C E)(m)(b)(r)(zE i)(hi:i=(n:Int))(c:N i=n)(Q):
  kr [Wx] [(15007,17,XI q k F D n X (N i) K S i (X (M i)) a C E m b 0,XJ q k F D n X (N i) K S i (X (M i)) a C E r zE)] 23 11001 16 (ZZ q k F D n X K S N) (λ_=>Z0 q n K S) (λi=>i+1) Q i:=by
 have d:a_ n=(n:Int):=rfl
 rw[Z1,c]
 refine Zg O λh=>?_
 repeat' (with_reducible first|exact trivial|exact TN _ _ _ _|exact bC _ _|exact bO _ _|exact aZ|refine Zi A ?_|refine Zf A ?_|refine YG A ?_|refine And.intro ?_ ?_)
def abx{q k F D}(n)(X)(hn:n<=400)(hq:ct q=true)(ha:q.a=1∨q.a=2)(hB:∀a,a<n->∀j,j<Ls (Hp F (X a)) (X a).m->Ot q F (X a) j<4000000/\Ov q F (X a) j<4000000)(g:∀j,j<k->isNat (D j)=true/\0<ao (D j)/\ao (D j)<10)(hX:∀a,a<n->Wz k (X a)/\(X a).m<=400/\fA (X a).L (X a).m/\fA (X a).G (X a).m):
  eu PP II false (aD II 23 11001) 16 (ZZ q k F D n X (dK X) (Zu q F D X) M 0) (Z0 q n (dK X) (Zu q F D X)):=by
 have key:=eu.Vk (ι:=Int) Hs [Wx] 1000 (λi=>[(15007,17,XI q k F D n X i.toNat (dK X) (Zu q F D X) i (X (M i)) (λl=>bu (Ot q F (X (M i)) l)) (λl=>bu (Ov q F (X (M i)) l)) (SY F D (X (M i))) M (λl=>(jy (Hp F (X (M i))) (X (M i)).m l.toNat:Nat)) 0,XJ q k F D n X i.toNat (dK X) (Zu q F D X) i (X (M i)) (λl=>bu (Ot q F (X (M i)) l)) (λl=>bu (Ov q F (X (M i)) l)) (SY F D (X (M i))) (Ls (Hp F (X (M i))) (X (M i)).m) ((X (M i)).m:Nat))]) (c:=aD II 23 11001) (ir:=false) 16 (λi=> ∃a:Nat,i=(a:Int)/\a<=n) (λi=>ZZ q k F D n X (dK X) (Zu q F D X) M i) (λ_=>Z0 q n (dK X) (Zu q F D X)) (λi=>n-i.toNat) (λi=>i+1) 0 A ⟨0,rfl,i_ n⟩ λp h=>?_
 ·exact key
 obtain⟨a,rfl,d⟩:=h
 rcases d_ d with b|b
 ·obtain⟨x1,x2,o,r⟩:=hX a b
  obtain⟨r1,s,e⟩:=HA (Hp F (X a)) (X a).m
  have t:∀V:Nat->Nat,(∀j,j<Ls (Hp F (X a)) (X a).m->V j<4000000)->Sw (Ls (Hp F (X a)) (X a).m) (λl=>bu (V l)) (SY F D (X a)):=λV hV j f=>by
   obtain⟨t1,t2⟩:=x1 _ (e j f).1
   have v:=hV j f
   refine⟨K4 O,by rw[cq];exact v,g _ ?_⟩
   omega
  exact aaV n X (dK X) (Zu q F D X) M (λl=>bu (Ot q F (X a) l)) (λl=>bu (Ov q F (X a) l)) (SY F D (X a)) M (λl=>(jy (Hp F (X a)) (X a).m l.toNat:Nat)) (Ls (Hp F (X a)) (X a).m) ((X a).m:Nat) (a:Int) a A b hn A O O A A (abw n X a (dK X) (Zu q F D X) (a:Int) hq ha x1 O o r r1 s e) ZD ZD A A A A A A A A A _ Y
 ·subst b
  exact acA a X (dK X) (Zu q F D X) M _ _ _ _ _ _ _ (a:Int) A A _
section
open Classical in
def aby(q:Query)(k:Nat)(F:Nat->ay):Bool:=z (∀a,a<(aV q F k).length->∀j,j<Ls (Hp F (og q (aV q F k) a)) (og q (aV q F k) a).m->Ot q F (og q (aV q F k) a) j<4000000/\Ov q F (og q (aV q F k) a) j<4000000)
def Z2{q k F}:aby q k F=true↔ ∀a,a<(aV q F k).length->∀j,j<Ls (Hp F (og q (aV q F k) a)) (og q (aV q F k) a).m->Ot q F (og q (aV q F k) a) j<4000000/\Ov q F (og q (aV q F k) a) j<4000000:=by
 unfold aby
 simp
def AS(q:Query)(k:Nat)(F:Nat->ay)(D:Nat->List UInt8):Nat->Nat->List UInt8:=Zu q F D (og q (aV q F k))
def adz{b:Int}{q:Query}{k:Nat}{F:Nat->ay}{D:Nat->List UInt8}(h:b=1∨b=2)(hq:ct (Bj b q)=true)(l:VS k F D=true)(hB:aby (Bj b q) k F=true)(c:cX k F=true):
  af PP II 23 [.agg (aY (Bj b q)),.ab k 12 (gW F D)] Hm (.ret (.qP [.ab (r8 (Bj b q) k F) 9 (xu q.ng (FM (Bj b q) k F) (AS (Bj b q) k F D)),.int f_ 0]) Hm):=by
 have m:=jS c
 have o:=(lG (Bj b q) F k).len
 have p:=jR c
 obtain⟨r,s,t⟩:=y6 F (FX hq).2.2 k p
 have sb:=abx (q:=Bj b q) (k:=k) (F:=F) (D:=D) (aV (Bj b q) F k).length (og (Bj b q) (aV (Bj b q) F k)) O hq h (Z2.1 hB) (ZX l).1 λa ha=>by
  have d:=u4 (Bj b q).ng (aV (Bj b q) F k).length (fj (Bj b q).ng (aV (Bj b q) F k)) ha
  refine⟨λj u=>?_,Nat.le_trans (r _ d) m,s _ d,t _ d⟩
  obtain⟨f,f1,e,_⟩:=Ho (Bj b q) F k ha j u
  rw[e];omega
 have sa:=abu (q:=Bj b q) (F:=F) (D:=D) m
 have v:r8 (Bj b q) k F=(aV (Bj b q) F k).length:=rfl
 have w:FM (Bj b q) k F=dK (og (Bj b q) (aV (Bj b q) F k)):=rfl
 have x:AS (Bj b q) k F D=Zu (Bj b q) F D (og (Bj b q) (aV (Bj b q) F k)):=rfl
 rw[v,w,x]
 refine VV (ks:=[u5 (Bj b q),ac4,J7 (Bj b q) (aV (Bj b q) F k).length (og (Bj b q) (aV (Bj b q) F k))]) (T:=[(5001,15,aao (Bj b q) k F D M 0,aap (Bj b q) k F D),(11001,16,ZZ (Bj b q) k F D (aV (Bj b q) F k).length (og (Bj b q) (aV (Bj b q) F k)) (dK (og (Bj b q) (aV (Bj b q) F k))) (Zu (Bj b q) F D (og (Bj b q) (aV (Bj b q) F k))) M 0,Z0 (Bj b q) (aV (Bj b q) F k).length (dK (og (Bj b q) (aV (Bj b q) F k))) (Zu (Bj b q) F D (og (Bj b q) (aV (Bj b q) F k))))]) ?_
 have g:J6 (Bj b q) (aV (Bj b q) F k).length (og (Bj b q) (aV (Bj b q) F k)) k (λj=>eD (F j))=true:=FW.2 ⟨rfl,rfl⟩
 generalize (aV (Bj b q) F k).length=n at sb g⊢
 generalize og (Bj b q) (aV (Bj b q) F k)=X at sb g⊢
 have is:=jv (Bj b q)
 have y:Ik k (λi=>eD (F i))=true:=by
  unfold Ik
  rw[gr,Bool.true_and]
  exact List.all_eq_true.2 λi hi=>p i (List.mem_range.1 hi)
 have f1:(l_ (b_ k) (λi=>bt.free (eD (F i)))&&z (k<=k))=true:=by
  rw[bW (dw k),h_]
  exact List.all_eq_true.2 λ_ _=>rfl
 have e:(l_ (b_ n) (λi=>bt.free (xu q.ng (dK X) (Zu (Bj b q) F D X) i))&&z (n<=n))=true:=by
  rw[bW (dw n),h_]
  exact List.all_eq_true.2 λ_ _=>rfl
 have is:qT (Bj b q) [.ab q.nw 3 (au q.C),.ab q.ng 1 (aR q.G),.int f_ b,.int f_ q.fl,.str q.nu,.str q.de,.int f_ 0]=true:=is
 have hmi:=Bl (rfl:Hm.get 0=_) (rfl:Hm.get 1=_) (rfl:Hm.get 2=_) (rfl:Hm.get 3=_) (rfl:Hm.get 6=_) (rfl:Hm.get 9=_) (rfl:Hm.get 10=_) (rfl:Hm.get 13=_)
 rw[adx,is,hq,XC,show Oq (gW F D)=F from rfl,show VO (gW F D)=D from rfl,c,l,g,y,f1,e,kV O]
 have fin:∀σ:Nat->Nat,AV.le σ (.qP [.ab n 9 (xu q.ng (dK X) (Zu (Bj b q) F D X)),.int f_ 0]) (.qP [.ab n 9 (xu q.ng (dK X) (Zu (Bj b q) F D X)),.int f_ 0]):=λσ=>⟨⟨rfl,rfl,λj _=>XF _ _ _ j σ⟩,⟨rfl,rfl⟩,trivial⟩
 refine cC _ _ A ?_
 rcases h with rfl|rfl
 ·refine Zl O λ_=>?_
  refine cC _ _ A ⟨sa,?_⟩
  exact ZO
 ·refine Zl (λ_=>Zl O λ_=>?_) O
  refine cC _ _ A ⟨sa,?_⟩
  exact ZO
end
def Eu(n g:Nat)(K:Nat->Nat->Int)(S:Nat->Nat->List UInt8)(W:Nat->Int)(i:Int):St:={t:=c_ [(0,.ab n 9 (xu g K S)),(1,.ab g 1 (ae W)),(4,.ptr 12 0 0 0),(5,.int f_ i)],nt:=29,H:={n:=13,t:=c_ [(12,.cells aaC (.ty 44))]},df:=[]}
def Fk(g:Nat)(K:Nat->Nat->Int)(S:Nat->Nat->List UInt8)(W:Nat->Int)(b:Bool)(j:Nat):GE:=.cond b (.one (.r {t:=c_ [(4,.ptr 12 0 0 0)],nt:=29,H:={n:=13,t:=c_ [(12,.cells (xu g K S j) (.ty 44))]},df:=[]})) (.one (.x 0 {t:=c_ [(1,.ab g 1 (ae W)),(4,.ptr 12 0 0 0)],nt:=29,H:={n:=13,t:=c_ [(12,.cells aaC (.ty 44))]},df:=[]}))
def acB(n g:Nat)(K:Nat->Nat->Int)(S:Nat->Nat->List UInt8)(W:Nat->Int)(b:Bool)(j:Nat)(i:Int)(Q:Prop):(kr [FR] [] 24 2004 13 (Eu n g K S W) (λ_=>Fk g K S W b j) (λi=>i+1) Q i)=(ah (z (i<a_ n)) (aa (z (0<=i)&&z (i<a_ n)) (aa (bA g (ae (K i.toNat))&&bA g (ae W)&&Nat.ble g 1000000&&g_ g g) (ah (A9 g (aM (ae (K i.toNat))) (aM (ae W))) (aa (z (0<=i)&&z (i<a_ n)) (ah b (zyN g (an g (ae (K i.toNat)) (ae (K j))/\bI (S i.toNat 0) (S j 0) (bI (S i.toNat 1) (S j 1) (bI (S i.toNat 2) (S j 2) (bI (S i.toNat 3) (S j 3) (bI (S i.toNat 4) (S j 4) (bI (S i.toNat 5) (S j 5) (bI (S i.toNat 6) (S j 6) (bI (S i.toNat 7) (S j 7) True))))))))) False)) (aa (aN f_ (i+1)) (zyB [] (zyB [] (zyB [] (zyB [] (zyB [] (zyB [] (zyB [] (zyB [] (zyN g (zyR g (ae W) (zyI (i+1) (zyN n (zyR n (xu g K S) Q))))))))))))))))) (ah b False (zyB [] (zyB [] (zyB [] (zyB [] (zyB [] (zyB [] (zyB [] (zyB [] (zyN g (zyR g (ae W) True)))))))))))):=U
def abz(n g:Nat)(K:Nat->Nat->Int)(S:Nat->Nat->List UInt8)(W:Nat->Int)(b:Bool)(j:Nat)(Q:AV->Prop):(kb [FR,W4] [(2004,13,Eu n g K S W 0,Fk g K S W b j)] 24 [.ab n 9 (xu g K S),.ab g 1 (ae W)] Q)=(eu PP II false (aD II 24 2004) 13 (Eu n g K S W 0) (Fk g K S W b j)/\zyB [] (zyB [] (zyB [] (zyB [] (zyB [] (zyB [] (zyB [] (zyB [] (zyN g (zyR g (ae W) (zyN n (zyR n (xu g K S) (ah b (Q (AV.agg [AV.ab g 1 (ae (K j)),e_ (S j 0),e_ (S j 1),e_ (S j 2),e_ (S j 3),e_ (S j 4),e_ (S j 5),e_ (S j 6),e_ (S j 7)])) (Q (AV.agg [AV.ab g 1 (ae W),e_ [48],e_ [49],e_ [48],e_ [49],e_ [48],e_ [49],e_ [48],e_ [49]]))))))))))))))):=U
def Oj(n g:Nat)(K:Nat->Nat->Int)(S:Nat->Nat->List UInt8)(W:Nat->Int)(c:Nat):List UInt8:=match Ps n g K W with
 |some j=>S j c
 |none=>match c with
  |0=>[48]
  |1=>[49]
  |2=>[48]
  |3=>[49]
  |4=>[48]
  |5=>[49]
  |6=>[48]
  |_=>[49]
def adC(n:Nat)(r:List AV):Bool:=match r with
 |[.ab k 1 f,.str _,.str _,.str _,.str _,.str _,.str _,.str _,.str _]=>g_ k n&&bA k f
 |_=>false
def Z3(n m:Nat)(r:Nat->List AV):Bool:=(b_ m).all λi=>adC n (r i)
def acC{n r i}(h:adC n (r i)=true)(σ):bt.le σ (r i) (xu n (CZ r) (nV r) i):=by
 unfold adC at h
 split at h
 ·rename_i k f a b c d e1 o p q e
  simp only[bf]at h
  obtain⟨g,l⟩:=h
  cases dE g
  unfold xu CZ nV
  rw[e]
  exact⟨⟨rfl,rfl,λj m=>by
   rw[kZ l j m]
   exact zM _ _ _⟩,rfl,rfl,rfl,rfl,rfl,rfl,rfl,rfl,trivial⟩
 ·cases h
def abA{n m r}(h:Z3 n m r=true):AV.le (λl=>l) (.ab m 9 r) (.ab m 9 (xu n (CZ r) (nV r))):=⟨rfl,rfl,λi hi=>acC (List.all_eq_true.1 h i (List.mem_range.2 hi)) _⟩
def aaW(n m)(K)(S):Z3 n m (xu n K S)=true:=List.all_eq_true.2 λi _=>by
 show(g_ n n&&bA n (ae (K i)))=true
 rw[ni,dy];rfl
def acD(n g)(hn:n<=1000000)(k:g<=1000000)(K)(S)(W):
  eu PP II false (aD II 24 2004) 13 (Eu n g K S W 0) (Fk g K S W (Ps n g K W).isSome ((Ps n g K W).getD 0)):=by
 have key:=eu.of (ι:=Nat) Hs [FR] (bm PP II []) 1000 (c:=aD II 24 2004) (ir:=false) 13 (λi=>i<=n/\∀l,l<i->A9 g (K l) W=false) (λi=>Eu n g K S W (i:Int)) (λ_=>Fk g K S W (Ps n g K W).isSome ((Ps n g K W).getD 0)) (λi=>n-i) (λi=>i+1) 0 A ⟨i_ _,O⟩ λi hi=>?_
 ·exact key
 obtain⟨hi,f⟩:=hi
 have m:a_ n=(n:Int):=rfl
 have go:∀Q:Prop,(i<n->A9 g (K i) W=false->Q)->kr [FR] [] 24 2004 13 (Eu n g K S W) (λ_=>Fk g K S W (Ps n g K W).isSome ((Ps n g K W).getD 0)) (λi=>i+1) Q (i:Int):=λQ hQ=>by
  rw[acB,show M (i:Int)=i from rfl]
  refine Zg (λh=>?_) λh=>?_
  ·have b:i<n:=by omega
   have j:(z ((0:Int)<=i)&&z ((i:Int)<a_ n))=true:=by simp only[bf,bn];omega
   refine cC _ _ j (cC _ _ (by rw[kc,kc,kV k,ni];rfl) ?_)
   cases a:A9 g (K i) W with
   |true=>
    have d:Ps n g K W=Option.some i:=by
     unfold Ps
     rw[List.find?_range_eq_some]
     exact Y
    rw[show A9 g (aM (ae (K i))) (aM (ae W))=true from a,d]
    exact cC _ _ j (YG A ⟨bL _ _,Zi A (Zi A (Zi A (Zi A (Zi A (Zi A (Zi A (Zi A trivial)))))))⟩)
   |false=>
    rw[show A9 g (aM (ae (K i))) (aM (ae W))=false from a]
    exact cC _ _ (aq O O) (Zi A (Zi A (Zi A (Zi A (Zi A (Zi A (Zi A (Zi A (YG A ⟨bL _ _,Zf A (YG A ⟨TN _ _ _ _,hQ b a⟩)⟩)))))))))
  ·have d:Ps n g K W=Option.none:=by
    unfold Ps
    rw[List.find?_eq_none]
    intro l hl c
    rw[f l Y]at c
    cases c
   rw[d]
   exact Zi A (Zi A (Zi A (Zi A (Zi A (Zi A (Zi A (Zi A (YG A ⟨bL _ _,trivial⟩))))))))
 exact go _ λh a=>⟨⟨h,λl hl=>by by_cases e:l=i;exact e▸a;exact f l O⟩,O,rfl⟩
def Zd(n g:Nat)(K:Nat->Nat->Int)(S:Nat->Nat->List UInt8)(W:Nat->Int):AV:=.agg [.ab g 1 (ae W),.str (Oj n g K S W 0),.str (Oj n g K S W 1),.str (Oj n g K S W 2),.str (Oj n g K S W 3),.str (Oj n g K S W 4),.str (Oj n g K S W 5),.str (Oj n g K S W 6),.str (Oj n g K S W 7)]
def abB{n g}(hn:n<=1000000)(c:g<=1000000)(K)(S)(W):
  af PP II 24 [.ab n 9 (xu g K S),.ab g 1 (ae W)] (AH.blank 12) (.ret (Zd n g K S W) (AH.blank 12)):=by
 refine Al (ks:=[FR,W4]) (T:=[(2004,13,Eu n g K S W 0,Fk g K S W (Ps n g K W).isSome ((Ps n g K W).getD 0))]) ?_
 rw[abz]
 refine⟨acD n g hn c K S W,Zi A (Zi A (Zi A (Zi A (Zi A (Zi A (Zi A (Zi A (YG A ⟨bL _ _,YG A ⟨TN _ _ _ _,?_⟩⟩))))))))⟩
 unfold Zd Oj
 cases b:Ps n g K W with
 |some j=>
  unfold Ps at b
  have d:A9 g (K j) W=true:=k_ (p:=λj=>A9 g (K j) W) b
  refineλσ=>⟨⟨rfl,rfl,λa ha=>?_⟩,rfl,rfl,rfl,rfl,rfl,rfl,rfl,rfl,trivial⟩
  have:=pT (List.all_eq_true.1 d a (List.mem_range.2 ha))
  exact⟨⟨rfl,this⟩,trivial⟩
 |none=>exactλσ=>⟨⟨rfl,rfl,λa _=>zM _ _ _⟩,rfl,rfl,rfl,rfl,rfl,rfl,rfl,rfl,trivial⟩
def hV(q:Query)(n:Nat)(a:List (Nat×eT)):AH:={n:=n,t:=c_ ([(0,.cells [.ab 5 2 aA] .ro),(1,.cells [.str [48],.str [49]] .ro),(2,.cells [.int f_ 7,.int f_ 9,.int f_ 11,.int f_ 99] .ro),(3,.cells [.map (some 13)] .ro),(6,.cells dz (.ex 20)),(9,.cells [.str [48],.str [49]] .ro),(10,.cells [.str [49],.str [49]] .ro),(13,.map OZ),(30,.cells (aY q) (.ty 32))]++a)}
def LN(q:Query)(k:Nat)(F:Nat->ay)(w:Nat)(W Z:Nat->Int)(p:Int->Nat)(i:Int):St:={t:=c_ [(2,.ab w 1 (ae W)),(6,.bool false),(7,.bool true),(8,.ptr 30 0 0 0),(9,.ab k 10 (λj=>eD (F j))),(10,.own 32 (p i) 1),(11,.int f_ i)],nt:=348,H:=hV q 33 [(32,.rows (p i) 1 (ae Z) (.ty 3))],df:=[]}
def LO(q:Query)(F:Nat->ay)(w:Nat)(W Z:Nat->Int)(b a:Nat):GE:=.one (.x 0 {t:=c_ [(2,.ab w 1 (ae W)),(6,.bool false),(7,.bool true),(8,.ptr 30 0 0 0),(9,.ab b 10 (λj=>eD (F j))),(10,.own 32 a 1)],nt:=348,H:=hV q 33 [(32,.rows a 1 (ae Z) (.ty 3))],df:=[]})
def acE(q:Query)(k:Nat)(F:Nat->ay)(w:Nat)(W Z:Nat->Int)(p:Int->Nat)(f d:Nat)(i:Int)(Q:Prop):(kr [] [] 5 6004 32 (LN q k F w W Z p) (λ_=>LO q F w W Z f d) (λi=>i+1) Q i)=(let b:=(an k (λj=>eD (F j)) λj=>eD (F j));let e:=(ah (z (a_ (p i)=5)) (aa (z (0<=i)&&z (i<=a_ k)) (ax (p i) d (zyR (p i) (ae Z) (zyN q.nw (zyR q.nw (au q.C) (zyN q.ng (zyR q.ng (aR q.G) (zyI q.a (zyI q.fl (zyB q.nu (zyB q.de (zyI q.top (zyB [49] (zyB [49] (zyB [48] (zyB [49] (zyB [48] (zyB [49] (zyR 5 aA (true=true/\ax (M (i-0)) f ((an (M (i-0)) (λi=>eD (F (0+i))) λj=>eD (F j))/\zyN w (zyR w (ae W) (ax (p i) d (false=false/\True)))))))))))))))))))))))) (aa (z (0<=i)&&z (i<a_ k)) (aa (z (p i<=p i)&&true&&true&&z ((p i+1)*8<=140737488355328)&&true) (aa (aN f_ (i+1)) (ax (p i+1) (p (i+1)) (an (p i+1) (λc=>bif Nat.blt c (p i)then ae Z c else List.take 1 (List.drop (0+(c-p i)*1) [AV.int f_ (ay.t (F i.toNat))])) (ae Z)/\zyN q.nw (zyR q.nw (au q.C) (zyN q.ng (zyR q.ng (aR q.G) (zyI q.a (zyI q.fl (zyB q.nu (zyB q.de (zyI q.top (zyB [49] (zyB [49] (zyB [48] (zyB [49] (zyB [48] (zyB [49] (zyR 5 aA (true=true/\zyI (i+1) (zyN k (b/\zyN w (zyR w (ae W) (ax (p i+1) (p (i+1)) (false=false/\Q)))))))))))))))))))))))))));(ah (z (i<a_ k)) (ah (z (i=0)) e (aa (z (0<=i)&&z (i<a_ k)) (aa (aN f_ (i-1)) (aa (z (0<=i-1)&&z (i-1<a_ k)) (ah (!decide (ay.t (F i.toNat)=ay.t (F (M (i-1))))) e (aa (aN f_ (i+1)) (ax (p i) (p (i+1)) (zyR (p i) (ae Z) (zyN q.nw (zyR q.nw (au q.C) (zyN q.ng (zyR q.ng (aR q.G) (zyI q.a (zyI q.fl (zyB q.nu (zyB q.de (zyI q.top (zyB [49] (zyB [49] (zyB [48] (zyB [49] (zyB [48] (zyB [49] (zyR 5 aA (true=true/\zyI (i+1) (zyN k (b/\zyN w (zyR w (ae W) (ax (p i) (p (i+1)) (false=false/\Q)))))))))))))))))))))))))))))) (ax (p i) d (zyR (p i) (ae Z) (zyN q.nw (zyR q.nw (au q.C) (zyN q.ng (zyR q.ng (aR q.G) (zyI q.a (zyI q.fl (zyB q.nu (zyB q.de (zyI q.top (zyB [49] (zyB [49] (zyB [48] (zyB [49] (zyB [48] (zyB [49] (zyR 5 aA (true=true/\ax k f (b/\zyN w (zyR w (ae W) (ax (p i) d (false=false/\True))))))))))))))))))))))))):=U
def RE(F:Nat->ay)(i:Nat):Bool:=z (i=0) || !decide ((F i).t=(F (i-1)).t)
def mY(F:Nat->ay):Nat->Nat
 |0=>0
 |i+1=>bif RE F i then mY F i+1 else mY F i
def Tg(F:Nat->ay){i:Nat}:∀{j:Nat},i<=j->mY F i<=mY F j
 |0,h=>by cases Nat.le_zero.1 h;exact dw _
 |j+1,h=>by
  rcases d_ h with h|h
  ·have:=Tg F (O:i<=j)
   show _<=(bif RE F j then mY F j+1 else mY F j)
   cases RE F j
   ·exact this
   ·exact Nat.le_succ_of_le this
  ·subst h;exact dw _
def adF(F:Nat->ay){i j:Nat}(a:RE F i=true)(h:i<j):mY F i<mY F j:=by
 have:=Tg F (O:i+1<=j)
 rw[show mY F (i+1)=mY F i+1 by show(bif RE F i then _ else _)=_;rw[a];rfl]at this
 omega
def Rl(k:Nat)(F:Nat->ay):Nat:=((b_ k).find? λi=>RE F i&&g_ (mY F i) 5).getD k
def FV(k:Nat)(F:Nat->ay)(l:Nat):Int:=(F (((b_ k).find? λi=>RE F i&&g_ (mY F i) l).getD 0)).t
def Ur{k:Nat}{F:Nat->ay}{i:Nat}(hi:i<k)(a:RE F i=true):FV k F (mY F i)=(F i).t:=by
 unfold FV
 rw[show(b_ k).find? (λj=>RE F j&&g_ (mY F j) (mY F i))=Option.some i from List.find?_range_eq_some.2 ⟨by rw[a,ni];rfl,List.mem_range.2 hi,λj b=>by
  cases h:RE F j
  ·rfl
  ·have:=adF F h b
   rw[show g_ (mY F j) (mY F i)=false from Bool.eq_false_iff.2 λe=>by have:=dE e;omega]
   rfl⟩]
 rfl
def aaq(k:Nat)(F:Nat->ay):Rl k F<=k:=by
 unfold Rl
 cases h:(b_ k).find? λi=>RE F i&&g_ (mY F i) 5 with
 |none=>exact dw _
 |some i=>exact Nat.le_of_lt (List.mem_range.1 (List.mem_of_find?_eq_some h))
def XM{k:Nat}{F:Nat->ay}{i:Nat}(hi:i<Rl k F):RE F i=false∨mY F i≠5:=by
 have b:i<k:=Nat.lt_of_lt_of_le hi (aaq k F)
 unfold Rl at hi
 cases h:(b_ k).find? λi=>RE F i&&g_ (mY F i) 5 with
 |none=>
  have:=List.find?_eq_none.1 h i (List.mem_range.2 b)
  cases a:RE F i
  ·exact Or.inl A
  ·refine Or.inr λe=>this ?_
   rw[a,e];rfl
 |some j=>
  rw[h]at hi
  have:=(List.find?_range_eq_some.1 h).2.2 i hi
  cases a:RE F i
  ·exact Or.inl A
  ·refine Or.inr λe=>?_
   rw[a,e]at this
   cases this
def abC{k:Nat}{F:Nat->ay}(h:Rl k F<k):RE F (Rl k F)=true/\mY F (Rl k F)=5:=by
 unfold Rl at h⊢
 cases a:(b_ k).find? λi=>RE F i&&g_ (mY F i) 5 with
 |none=>rw[a]at h;exact absurd h (HD _)
 |some j=>
  have:=k_ a
  simp only[bf]at this
  exact⟨this.1,dE this.2⟩
def XN{k:Nat}{F:Nat->ay}:∀{i:Nat},i<=Rl k F->mY F i<=5
 |0,_=>i_ _
 |i+1,h=>by
  have b:=XN (k:=k) (F:=F) (i:=i) O
  have a:=XM (k:=k) (F:=F) (i:=i) O
  show(bif RE F i then mY F i+1 else mY F i)<=5
  cases c:RE F i
  ·exact b
  ·rw[c]at a
   rcases a with a|a
   ·cases a
   ·show mY F i+1<=5;omega
def aaJ(n)(F:Nat->ay):an n (λi=>eD (F (0+i))) λj=>eD (F j):=λj _ σ=>by
 show bt.le σ (eD (F (0+j))) (eD (F j))
 rw[Nat.zero_add]
 exact cL σ _
def acF{q k F}(w)(W)(D:k<=400):
  eu PP II false (aD II 5 6004) 32 (LN q k F w W (FV k F) (λi=>mY F i.toNat) 0) (LO q F w W (FV k F) (Rl k F) (mY F (Rl k F))):=by
 refine eu.wL [] (n:=(Rl k F)) A λa ha Q hQ=>?_
 have E:a_ k=(k:Int):=rfl
 have G:=aaq k F
 rw[acE,show M (a:Int)=a from rfl,show M ((a:Int)+1)=a+1 by omega]
 have f:=XN ha
 have H:a_ (mY F a)=(mY F a:Int):=rfl
 refine Zg (λh=>?_) λh=>?_
 ·have o:a<k:=by omega
  have g:(z (0<=(a:Int))&&z ((a:Int)<a_ k))=true:=by simp only[bf,bn];omega
  have p:(z (0<=(a:Int))&&z ((a:Int)<=a_ k))=true:=by simp only[bf,bn];omega
  have r:(z (mY F a<=mY F a)&&true&&true&&z ((mY F a+1)*8<=140737488355328)&&true)=true:=by rw[bW (dw (mY F a)),bW O];rfl
  have bi:aN f_ ((a:Int)+1)=true:=aq O O
  have stop:RE F a=true->mY F a=5->a=Rl k F:=λc f=>by
   rcases d_ ha with b|b
   ·rcases XM b with y|y
    all_goals grind
   ·exact b
  have d:RE F a=true->mY F a≠5->Q:=λc f=>hQ (by
   rcases d_ ha with b|b
   ·exact b
   ·exact absurd (b▸(abC O).2) f)
  have j:RE F a=false->Q:=λc=>hQ (by
   rcases d_ ha with b|b
   ·exact b
   ·have:=(abC (O:Rl k F<k)).1
    grind)
  have up:RE F a=true->mY F (a+1)=mY F a+1:=λc=>by show(bif RE F a then _ else _)=_;rw[c];rfl
  have u:RE F a=false->mY F (a+1)=mY F a:=λc=>by show(bif RE F a then _ else _)=_;rw[c];rfl
  have s:=ey (FV k F) (mY F a) (F a).t
  have e:RE F a=true->mY F a=5->a=Rl k F/\mY F a=mY F (Rl k F):=λc f=>Y
  refine Zg (λv=>?_) λv=>?_
  ·have c:RE F a=true:=by unfold RE;rw[bW (O:a=0)];rfl
   refine Zg (λl=>?_) λl=>?_
   ·obtain⟨x1,x2⟩:=e c O
    refine cC _ _ p ?_
    exact ZP
   ·have hn:=d c O
    have sz:=s (Ur o c).symm
    have e1:=up c
    refine cC _ _ g (cC _ _ r (cC _ _ bi ?_))
    exact ZQ
  ·have x:aN f_ ((a:Int)-1)=true:=aq O O
   have B:(z (0<=(a:Int)-1)&&z ((a:Int)-1<a_ k))=true:=by simp only[bf,bn];omega
   have C:M ((a:Int)-1)=a-1:=O
   rw[C]
   refine cC _ _ g (cC _ _ x (cC _ _ B (Zl (λm=>?_) λm=>?_)))
   ·have c:RE F a=true:=by unfold RE;rw[nZ m];simp
    refine Zg (λl=>?_) λl=>?_
    ·obtain⟨x1,x2⟩:=e c O
     refine cC _ _ p ?_
     exact ZP
    ·have hn:=d c O
     have sz:=s (Ur o c).symm
     have e1:=up c
     refine cC _ _ g (cC _ _ r (cC _ _ bi ?_))
     exact ZQ
   ·have c:RE F a=false:=by unfold RE;rw[bW m,nZ O];rfl
    have hn:=j c
    have e1:=u c
    refine cC _ _ bi ?_
    repeat' (first|with_reducible exact hn|with_reducible rfl|with_reducible exact nf _ _|with_reducible exact bL _ _|with_reducible exact bC _ _|with_reducible exact bO _ _|with_reducible exact aZ|with_reducible refine Zi A ?_|with_reducible refine Zf A ?_|refine YG e1.symm ?_|with_reducible refine YG A ?_|with_reducible refine And.intro ?_ ?_)
 ·have x1:k=Rl k F:=by omega
  have x2:mY F a=mY F (Rl k F):=by rw[show a=Rl k F by omega]
  exact ZP
def It(a:Nat->List UInt8):List AV:=[.str (a 0),.str (a 1),.str (a 2),.str (a 3),.str (a 4),.str (a 5),.str (a 6),.str (a 7),.str (a 8),.str (a 9),.str (a 10),.str (a 11)]
def Fl(k:Nat)(F:Nat->ay)(D:Nat->List UInt8)(p RN g:Nat)(RA:Nat->Nat->Int)(RB:Nat->Nat->List UInt8)(i:Int)(a:List (Nat×AV)):Tr AV:=c_ ([(6,.bool false),(7,.bool true),(8,.ptr 30 0 0 0),(10,.own 32 p 1),(12,.ab k 12 (gW F D)),(13,.ab RN 9 (aX g RA RB)),(15,.int f_ i)]++a)
def Fm(q:Query)(n p:Nat)(Z:Nat->Int)(a:List (Nat×eT)):AH:=hV q n ([(32,.rows p 1 (ae Z) (.ty 3))]++a)
def Nw(q:Query)(k:Nat)(F:Nat->ay)(D:Nat->List UInt8)(p:Nat)(Z:Nat->Int)(RN:Nat)(RA:Nat->Nat->Int)(RB:Nat->Nat->List UInt8)(i:Int):St:={t:=Fl k F D p RN q.ng RA RB i [],nt:=348,H:=Fm q 33 p Z [],df:=[]}
def Nx:GE:=.one (.x 2 {t:=c_ [(6,.bool false),(7,.bool true)],nt:=348,H:={n:=33,t:=.e},df:=[]})
def Ou(q:Query)(k:Nat)(F:Nat->ay)(D:Nat->List UInt8)(p:Nat)(Z:Nat->Int)(RN:Nat)(RA:Nat->Nat->Int)(RB:Nat->Nat->List UInt8)(i:Int)(a:Int->Nat->List UInt8)(c:Int):St:={t:=Fl k F D p RN q.ng RA RB i [(16,.ptr 33 0 0 0),(18,.int f_ c)],nt:=348,H:=Fm q 40 p Z [(33,.cells (It (a c)) (.ty 54))],df:=[]}
def Pz(q:Query)(k:Nat)(F:Nat->ay)(D:Nat->List UInt8)(p:Nat)(Z:Nat->Int)(RN:Nat)(RA:Nat->Nat->Int)(RB:Nat->Nat->List UInt8)(i:Int)(a:Nat->List UInt8):GE:=.one (.x 6 {t:=Fl k F D p RN q.ng RA RB i [(16,.ptr 33 0 0 0)],nt:=348,H:=Fm q 40 p Z [(33,.cells (It a) (.ty 54))],df:=[]})
def Q1(q:Query)(k:Nat)(F:Nat->ay)(D:Nat->List UInt8)(p:Nat)(Z:Nat->Int)(RN:Nat)(RA:Nat->Nat->Int)(RB:Nat->Nat->List UInt8)(i:Int)(a:Nat->List UInt8)(c:Int)(e:Nat->ay)(f:Nat->List UInt8)(d:Int->Nat)(b B:Int->List UInt8)(n:Int):St:={t:=Fl k F D p RN q.ng RA RB i [(16,.ptr 33 0 0 0),(18,.int f_ c),(19,.ptr 41 0 0 0),(20,.own 42 (d n) 12),(21,.int f_ n)],nt:=348,H:=Fm q 43 p Z [(33,.cells (It a) (.ty 54)),(41,.cells [.str (b n),.str (B n)] (.ty 30)),(42,.rows (d n) 12 (gW e f) (.ty 57))],df:=[]}
def Tp(q:Query)(k:Nat)(F:Nat->ay)(D:Nat->List UInt8)(p:Nat)(Z:Nat->Int)(RN:Nat)(RA:Nat->Nat->Int)(RB:Nat->Nat->List UInt8)(i:Int)(a:Nat->List UInt8)(c:Int)(e:Nat->ay)(f:Nat->List UInt8)(d:Nat)(b B:List UInt8):GE:=.one (.x 8 {t:=Fl k F D p RN q.ng RA RB i [(16,.ptr 33 0 0 0),(18,.int f_ c),(19,.ptr 41 0 0 0),(20,.own 42 d 12)],nt:=348,H:=Fm q 43 p Z [(33,.cells (It a) (.ty 54)),(41,.cells [.str b,.str B] (.ty 30)),(42,.rows d 12 (gW e f) (.ty 57))],df:=[]})
def ZA(q:Query)(k:Nat)(F:Nat->ay)(D:Nat->List UInt8)(p:Nat)(Z:Nat->Int)(RN:Nat)(RA:Nat->Nat->Int)(RB:Nat->Nat->List UInt8)(i:Int)(a:Nat->List UInt8)(c:Int)(e:Nat->ay)(f:Nat->List UInt8)(n:Int)(kp:Bool)(d:Int->Nat)(b B:Int->List UInt8)(m:Int):St:={t:=Fl k F D p RN q.ng RA RB i [(16,.ptr 33 0 0 0),(18,.int f_ c),(19,.ptr 41 0 0 0),(20,.own 43 (d m) 12),(21,.int f_ n),(22,.bool kp),(23,.int f_ m)],nt:=348,H:=Fm q 44 p Z [(33,.cells (It a) (.ty 54)),(41,.cells [.str (b m),.str (B m)] (.ty 30)),(43,.rows (d m) 12 (gW e f) (.ty 57))],df:=[]}
def ZE(q:Query)(k:Nat)(F:Nat->ay)(D:Nat->List UInt8)(p:Nat)(Z:Nat->Int)(RN:Nat)(RA:Nat->Nat->Int)(RB:Nat->Nat->List UInt8)(i:Int)(a:Nat->List UInt8)(c:Int)(e:Nat->ay)(f:Nat->List UInt8)(n:Int)(d:Nat)(b B:List UInt8):GE:=.one (.x 10 {t:=Fl k F D p RN q.ng RA RB i [(16,.ptr 33 0 0 0),(18,.int f_ c),(19,.ptr 41 0 0 0),(20,.own 43 d 12),(21,.int f_ n)],nt:=348,H:=Fm q 44 p Z [(33,.cells (It a) (.ty 54)),(41,.cells [.str b,.str B] (.ty 30)),(43,.rows d 12 (gW e f) (.ty 57))],df:=[]})
end
end Go.Sx
