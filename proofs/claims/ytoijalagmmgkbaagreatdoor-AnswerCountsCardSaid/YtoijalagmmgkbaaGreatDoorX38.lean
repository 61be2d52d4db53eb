/- The proof of a statement of the seat, part 38. -/
import Derived.Test.YtoijalagmmgkbaaGreatDoorX37
import Derived.Test.YtoijalagmmgkbaaGreatDoorX30
import Derived.Test.YtoijalagmmgkbaaGreatDoorX33
import Derived.Test.YtoijalagmmgkbaaGreatDoorX26
import Derived.Test.YtoijalagmmgkbaaGreatDoorX29
set_option linter.all false
set_option linter.defProp false
section
set_option maxRecDepth 1000000
namespace Go.Sx
open Go
theorem TD{n:Nat}{F:Nat->ay}(hn:n<=400):aE PP II false (aD II 54 2001) 12 (VM n F 0) (VN n F):=by
 have key:=aE.of (ι:=Int) iw [Hn] (bm PP II []) 1000 (c:=aD II 54 2001) (ir:=false) 12 (λi=> ∃k:Nat,i=(k:Int)/\k<=n) (λi=>VM n F i) (λ_=>VN n F) (λi=>n-i.toNat) (λi=>i+1) 0 A ⟨0,rfl,Nat.zero_le n⟩ λp f=>?_
 ·exact key
 have m:Int.ofNat n=(n:Int):=rfl
 have r:an n (eD F) (eD F):=λj _ σ=>qo σ F j
 obtain⟨k,rfl,o⟩:=f
 have go:∀Q:Prop,(k<n->Q)->kr [Hn] [] 54 2001 12 (VM n F) (λ_=>VN n F) (λi=>i+1) Q (k:Int):=λQ hQ=>by
  rw[TA]
  refine Zg (λh=>?_) λh=>?_
  ·have g:k<n:=by omega
   have l:(decide ((0:Int)<=(k:Int))&&decide ((k:Int)<Int.ofNat n))=true:=by simp only[bf,bn];omega
   have hi:aN .i64 ((k:Int)+1)=true:=aq O O
   have b:=cC _ _ hi (Zf (a:=(k:Int)+1) A (YG (a:=n) A (And.intro r (YG (a:=n) A (And.intro r (Zf (a:=Int.ofNat n) A (hQ g)))))))
   refine cC _ _ l (Zg (λq=>?_) λ_=>b)
   have e:aN .i64 ((k:Int)-1)=true:=aq O O
   have d:(decide ((0:Int)<=(k:Int)-1)&&decide ((k:Int)-1<Int.ofNat n))=true:=by simp only[bf,bn];omega
   exact cC _ _ e (cC _ _ d (Zg (λ_=>cC _ _ e (cC _ _ d b)) λ_=>b))
  ·exact YG A ⟨r,trivial⟩
 exact go _ λh=>⟨⟨k+1,rfl,O⟩,ZE,rfl⟩
theorem VS{n:Nat}{F:Nat->ay}(h:cX n F=true):af PP II 54 [.ab n 12 (eD F)] HP (.ret (.bool true) HP):=by
 have hn:=jS h
 have r:an n (eD F) (eD F):=λj _ σ=>qo σ F j
 refine kz (ks:=[Wh,uT]) (T:=[(2001,12,VM n F 0,VN n F)]) ?_
 rw[VO,Bi,kV hn,show qP (eD F)=F from rfl,Ag,h,gr,bW (O:n<=1000000)]
 exact⟨TD hn,YG A ⟨r,YG A ⟨r,Zf A (cC _ _ A (cC _ _ A λ_=>rfl))⟩⟩⟩
noncomputable def Wk:aC PP II:=aC.l8 54
 (λX args b=>match args with
  |[.ab n 12 f]=>X.ak (JR n f&&cX n (qP f)) (b (.bool true))
  |_=>X.fail)
 λX sem hX args b h=>by
  split at h
  ·obtain⟨a,c⟩:=hX.ak _ _ h
   rw[bf]at a
   exact⟨_,c,λ_=>rfl,λ_=>rfl,(VS a.2).dq ⟨Hq a.1,trivial⟩⟩
  ·exact zR
theorem TF{n:Nat}{F:Nat->ay}(hn:n<=400):aE PP II false (aD II 19 3004) 12 (VP n F Int.toNat 0) (VQ n F):=by
 have key:=aE.of (ι:=Int) iw [KB] (bm PP II []) 1000 (c:=aD II 19 3004) (ir:=false) 12 (λi=> ∃k:Nat,i=(k:Int)/\k<=n) (λi=>VP n F Int.toNat i) (λ_=>VQ n F) (λi=>n-i.toNat) (λi=>i+1) 0 A ⟨0,rfl,Nat.zero_le n⟩ λp a=>?_
 ·exact key
 have g:Int.ofNat n=(n:Int):=rfl
 obtain⟨k,rfl,l⟩:=a
 have go:∀Q:Prop,(k<n->Q)->kr [KB] [] 19 3004 12 (VP n F Int.toNat) (λ_=>VQ n F) (λi=>i+1) Q (k:Int):=λQ hQ=>by
  rw[TB,show Int.toNat (k:Int)=k from rfl,show Int.toNat ((k:Int)+1)=k+1 by omega]
  refine Zg (λh=>?_) λh=>?_
  ·have b:k<n:=by omega
   have d:(decide ((0:Int)<=(k:Int))&&decide ((k:Int)<Int.ofNat n))=true:=by simp only[bf,bn];omega
   have f:(decide (k<=k)&&true&&true&&decide ((k+1)*112<=140737488355328)&&true)=true:=by rw[bW (dw k),bW (O:(k+1)*112<=140737488355328)];rfl
   exact cC _ _ d (cC _ _ zA (cC _ _ f (cC _ _ (aq O O) (YG A ⟨pn (eD F) k (λj σ=>qo σ F j) A,YG A (YG A ⟨λj _ σ=>cL σ _,Zf A (hQ b)⟩)⟩))))
  ·have e:k=n:=by omega
   subst e
   exact YG A ⟨λj _ σ=>qo σ F j,YG A trivial⟩
 exact go _ λh=>⟨⟨k+1,rfl,O⟩,ZE,rfl⟩
theorem TG{n:Nat}{F:Nat->ay}(hn:n<=400):af PP II 19 [cm n F,.aw] (AH.blank 12) (.ret (.ab n 12 (eD F)) (AH.blank 12)):=by
 refine bY (ks:=[]) (T:=[(3004,12,VP n F Int.toNat 0,VQ n F)]) (λσ=>⟨rfl,rfl,λj _=>qo σ F j⟩) ?_
 show kb [] _ 19 [.ab n 10 (λj=>aF (F j)),.aw] _
 rw[TC]
 refine⟨TF hn,YG A (YG A (YG A ⟨λj _ σ=>cL σ _,cC _ _ ?_ A⟩))⟩
 rw[bW (dw n),Bool.and_true]
 exact List.all_eq_true.2 λ_ _=>rfl
noncomputable def Vh:aC PP II:=aC.pure 19
 (λX args b=>match args with
  |[.ab n 10 f,.aw]=>X.ak (fh n f&&Nat.ble n 400) (b (.ab n 12 (eD (bP f))))
  |_=>X.fail)
 λX sem hX args b h=>by
  split at h
  ·obtain⟨a,c⟩:=hX.ak _ _ h
   rw[bf]at a
   exact⟨_,c,λ_=>rfl,λ_=>rfl,(TG (jX a.2)).dq ⟨fq a.1,trivial,trivial⟩⟩
  ·exact zR
end Go.Sx
end
section
set_option maxRecDepth 1000000
namespace Go.Sx
open Go
noncomputable def Ww:ai:=.cells [.any,.any] (.ty 30)
noncomputable def Xk(b:Nat)(x:List UInt8):AH:=WB (b+4) [(12,Ww),(13,Ww),(14,.cells [.bool false] (.ty 157)),(b,.cells [.ptr 14 0 0 0] (.ty 221)),(b+1,Ww),(b+2,.cells [.str x,.str [49]] (.ty 30)),(b+3,Ww)]
noncomputable def LH(b fn n:Nat)(S:Nat->List UInt8)(a:Int->List UInt8)(i:Int):St:={t:=Tr.ofList [(2,.ptr 14 0 0 0),(3,.fn fn [] [.ptr b 0 0 0]),(5,.ptr (b+2) 0 0 0),(8,.ptr (b+3) 0 0 0),(11,.ab n 4 (nX S)),(12,.int .i64 (Int.ofNat n)),(13,.int .i64 i)],nt:=25,H:=Xk b (a i),df:=[]}
noncomputable def LI(b:Nat)(a:List UInt8):GE:=.one (.x 0 {t:=Tr.ofList [(5,.ptr (b+2) 0 0 0),(8,.ptr (b+3) 0 0 0)],nt:=25,H:=Xk b a,df:=[]})
theorem TL(n:Nat)(S:Nat->List UInt8)(b:Int->List UInt8)(a:List UInt8)(i:Int)(Q:Prop):(kr [Du,Ed] [] 137 2001 19 (LH 15 138 n S b) (λ_=>LI 15 a) (λi=>i+1) Q i)=(ah (decide (i<Int.ofNat n)) (B (decide (0<=i)&&decide (i<Int.ofNat n)) (B (isNat (S i.toNat)&&true&&true&&true&&Nat.ble (ao (S i.toNat)) 100000000) (B (decide (b i=b i)&&true) (B (isNat (b i)&&isNat (S i.toNat)&&true&&true&&Nat.ble (ao (b i)) 2305843009213693952&&Nat.ble (ao (S i.toNat)) 2305843009213693952) (B (aN .i64 (i+1)) (bI (bu (ao (b i)+ao (S i.toNat))) (b (i+1)) (zyB [49] (false=false/\zyB [49] (zyB [49] (zyB [48] (zyB [49] (zyN n (zyR n (nX S) (zyI (i+1) (zyI (Int.ofNat n) Q))))))))))))))) (bI (b i) a (zyB [49] (false=false/\zyB [49] (zyB [49] (zyB [48] (zyB [49] True))))))):=U
theorem TM(n:Nat)(S:Nat->List UInt8)(b:Int->List UInt8)(a:List UInt8)(i:Int)(Q:Prop):(kr [Du,QL,Ed,Q7] [] 137 2001 23 (LH 19 140 n S b) (λ_=>LI 19 a) (λi=>i+1) Q i)=(ah (decide (i<Int.ofNat n)) (B (decide (0<=i)&&decide (i<Int.ofNat n)) (B (isNat (S i.toNat)&&isNat (S i.toNat)&&true&&true&&Nat.ble (ao (S i.toNat)) 100000000&&Nat.blt (ao (S i.toNat)) 10000) (B (isNat (bu (ao (S i.toNat)*ao (S i.toNat)))&&isNat [48]&&true&&true&&Nat.ble (ao (bu (ao (S i.toNat)*ao (S i.toNat)))) 100000000&&Nat.blt (ao [48]) 10000) (B (isNat [49]&&isNat [49]&&true&&true&&Nat.ble (ao [49]) 100000000&&Nat.blt (ao [49]) 10000) (B (isNat (bu (ao (bu (ao (S i.toNat)*ao (S i.toNat)))*ao [48]))&&true&&decide (bu (ao [49]*ao [49])=[49])&&true&&Nat.ble (ao (bu (ao (bu (ao (S i.toNat)*ao (S i.toNat)))*ao [48]))) 100000000) (B (decide (b i=b i)&&true) (B (isNat (b i)&&isNat (bu (ao (bu (ao (S i.toNat)*ao (S i.toNat)))*ao [48]))&&true&&true&&Nat.ble (ao (b i)) 2305843009213693952&&Nat.ble (ao (bu (ao (bu (ao (S i.toNat)*ao (S i.toNat)))*ao [48]))) 2305843009213693952) (B (aN .i64 (i+1)) (bI (bu (ao (b i)+ao (bu (ao (bu (ao (S i.toNat)*ao (S i.toNat)))*ao [48])))) (b (i+1)) (zyB [49] (false=false/\zyB [49] (zyB [49] (zyB [48] (zyB [49] (zyN n (zyR n (nX S) (zyI (i+1) (zyI (Int.ofNat n) Q)))))))))))))))))) (bI (b i) a (zyB [49] (false=false/\zyB [49] (zyB [49] (zyB [48] (zyB [49] True))))))):=U
theorem VT(n:Nat)(S:Nat->List UInt8)(c d:Int->List UInt8)(a b:List UInt8)(Q:AV->Prop):(ke [Wg] [(2001,19,LH 15 138 n S c 0,LI 15 a),(2001,23,LH 19 140 n S d 0,LI 19 b)] 32 [.ab n 2 (lh S),.ab n 2 eu] Q)=(B (Nat.beq n n&&Nat.ble n 400&&mY n (lh S)&&tp n eu) (aE PP II false (aD II 137 2001) 19 (LH 15 138 n S c 0) (LI 15 a)/\bI [48] (c 0) (zyB [49] (false=false/\zyB [49] (zyB [49] (zyB [48] (zyB [49] (zyN n (an n (nX λj=>S j) (nX S)/\zyI (Int.ofNat n) (aE PP II false (aD II 137 2001) 23 (LH 19 140 n S d 0) (LI 19 b)/\bI [48] (d 0) (zyB [49] (false=false/\zyB [49] (zyB [49] (zyB [48] (zyB [49] (zyN n (an n (nX λj=>S j) (nX S)/\zyI (Int.ofNat n) (B (decide (b=b)&&true) (Q (AV.bK [AV.agg [AV.str a,AV.str [49]],AV.agg [AV.str b,AV.str [49]],AV.int .i64 0])))))))))))))))))))):=U
end Go.Sx
end
section
set_option maxRecDepth 100000
namespace Go.Sx
open Go
theorem Rh{q:Query}(ha:q.a=1)(k:Nat)(W:Nat->Int):jO q k W=(k,1):=by
 unfold jO
 by_cases h:k=0
 ·rw[if_pos h,h]
 ·rw[if_neg h,if_pos ha]
theorem xl{q:Query}(ha:q.a=1)(k:Nat)(W:Nat->Int):(c8 q k W,da q k W)=(bu k,[49]):=by
 unfold c8 da
 rw[Rh ha]
 show(bu (k/Nat.gcd k 1),bu (1/Nat.gcd k 1))=_
 rw[Nat.gcd_one_right,Nat.div_one,Nat.div_one,GR]
theorem LJ(a b:Nat):bw (ao (bu a)) (ao [49]) (ao (bu b)) (ao [49])=if a<b then -1 else if b<a then 1 else 0:=by
 rw[cq,cq,il]
 unfold bw dU
 rw[Nat.mul_one,Nat.mul_one]
theorem tz{R:Nat->List UInt8×List UInt8}{n:Nat}(a:∀i,R i=(bu (n+i),[49])):∀i,aS (λc=>decide (c<0)) R i=(bu n,[49])
 |0=>a 0
 |i+1=>by
  show(match decide (bw (ao (R (i+1)).1) (ao (R (i+1)).2) (ao (aS (λc=>decide (c<0)) R i).1) (ao (aS (λc=>decide (c<0)) R i).2)<0)with|true=>R (i+1)|false=>aS (λc=>decide (c<0)) R i)=_
  rw[tz a i,a (i+1),LJ,if_neg (O:¬ n+(i+1)<n),if_pos (O:n<n+(i+1))]
  rfl
theorem tD{R:Nat->List UInt8×List UInt8}{n:Nat}(a:∀i,R i=(bu (n+i),[49])):∀i,aS (λc=>decide (c>0)) R i=(bu (n+i),[49])
 |0=>a 0
 |i+1=>by
  show(match decide (bw (ao (R (i+1)).1) (ao (R (i+1)).2) (ao (aS (λc=>decide (c>0)) R i).1) (ao (aS (λc=>decide (c>0)) R i).2)>0)with|true=>R (i+1)|false=>aS (λc=>decide (c>0)) R i)=_
  rw[tD a i,a (i+1),LJ,if_neg (O:¬ n+(i+1)<n+i),if_pos (O:n+i<n+(i+1))]
  rfl
theorem NB{q:Query}(ha:q.a=1)(c:Nat)(V b:Nat->Int):∀i,bN q c V b i=(bu (c+i),[49])
 |0=>xl ha c V
 |i+1=>xl ha (c+(i+1)) (jB c V b)
theorem JX{q:Query}(ha:q.a=1)(b:Nat->Int):∀i,br q b i=(bu (0+i),[49])
 |0=>xl ha 0 _
 |i+1=>by rw[Nat.zero_add];exact xl ha (i+1) b
theorem Ri{C:Nat->Bool}{k:Nat}(h:(List.range k).any C=false):aP C k=0/\aP (λi=>!C i) k=k:=by
 rw[List.any_eq_false]at h
 unfold aP
 rw[List.filter_eq_nil_iff.2 h,List.filter_eq_self.2 λa ha=>by simp[h a ha],List.length_range]
 exact⟨rfl,rfl⟩
theorem JZ(C:Nat->Bool):∀k,aP C k+aP (λi=>!C i) k=k
 |0=>rfl
 |k+1=>by
  have a:=JZ C k
  cases h:C k with
  |true=>rw[iE h,kO (p:=λi=>!C i) (by show(!C k)=false;rw[h];rfl)];omega
  |false=>rw[kO h,iE (p:=λi=>!C i) (by show(!C k)=true;rw[h];rfl)];omega
theorem zu{q:Query}(ha:q.a=1)(k:Nat)(W:Nat->Int)(C:Nat->Bool):eO q k W C=(bu (aP C k),[49]):=by
 unfold eO
 cases b:(List.range k).any C with
 |true=>exact tz (NB ha _ _ _) _
 |false=>rw[(Ri b).1];exact tz (JX ha _) _
theorem zK{q:Query}(ha:q.a=1)(k:Nat)(W:Nat->Int)(C:Nat->Bool):dQ q k W C=(bu k,[49]):=by
 unfold dQ
 cases b:(List.range k).any C with
 |true=>rw[show bu k=bu (aP C k+aP (λi=>!C i) k) by rw[JZ]];exact tD (NB ha _ _ _) _
 |false=>
  have:=tD (JX ha (cK k W)) k
  rw[Nat.zero_add]at this;exact this
def xm(p:Nat->Bool)(m:Nat):Nat->Nat->Nat
 |0,n=>n
 |f+1,n=>bif Nat.blt n m&&p n then xm p m f (n+1)else n
theorem J5(p:Nat->Bool)(m:Nat):∀f n,n<=m->m<=n+f->n<=xm p m f n/\xm p m f n<=m/\(∀i,n<=i->i<xm p m f n->p i=true)/\(xm p m f n<m->p (xm p m f n)=false)
 |0,n,d,g=>⟨dw _,d,λi a b=>absurd (show i<n from b) O,λh=>absurd (show n<m from h) O⟩
 |f+1,n,d,g=>by
  unfold xm
  cases c:Nat.blt n m&&p n with
  |false=>
   refine⟨dw _,d,λi a b=>absurd (show i<n from b) O,λh=>?_⟩
   have h:n<m:=h
   rw[show Nat.blt n m=true from Nat.blt_eq.mpr h,Bool.true_and]at c
   exact c
  |true=>
   rw[bf,Nat.blt_eq]at c
   obtain⟨a1,a2,j,a4⟩:=J5 p m f (n+1) c.1 O
   refine⟨Nat.le_trans (Nat.le_succ n) a1,a2,λi d g=>?_,a4⟩
   by_cases e:i=n
   ·rw[e];exact c.2
   ·exact j i O g
def vc(Z:Nat->Int)(m n:Nat):Nat:=xm (λi=>decide (Z i=Z n)) m m n
theorem xn(Z:Nat->Int){m n:Nat}(h:n<m):n<vc Z m n/\vc Z m n<=m/\(∀i,n<=i->i<vc Z m n->Z i=Z n)/\(vc Z m n<m->Z (vc Z m n)≠Z n):=by
 obtain⟨a1,a2,b,a4⟩:=J5 (λi=>decide (Z i=Z n)) m m n (Nat.le_of_lt h) O
 refine⟨?_,a2,λi a c=>pT (b i a c),λh=>of_decide_eq_false (a4 h)⟩
 rcases Nat.lt_or_eq_of_le a1 with a|a
 ·exact a
 ·have:=a4 (by show xm _ m m n<m;rw[<-a];exact h)
  rw[<-a]at this
  exact absurd A (of_decide_eq_false this)
def jy(Z:Nat->Int)(m:Nat):Nat->Nat
 |0=>0
 |j+1=>bif Nat.blt (jy Z m j) m then vc Z m (jy Z m j)else m
theorem Hr(Z:Nat->Int)(m:Nat):∀j,jy Z m j<=m
 |0=>Nat.zero_le _
 |j+1=>by
  unfold jy
  cases h:Nat.blt (jy Z m j) m with
  |true=>exact(xn Z (Nat.blt_eq.mp h)).2.1
  |false=>exact dw _
theorem NC(Z:Nat->Int)(m:Nat):∀j,j<=m->j<=jy Z m j
 |0,_=>Nat.zero_le _
 |j+1,h=>by
  have b:=NC Z m j O
  unfold jy
  cases a:Nat.blt (jy Z m j) m with
  |true=>have:=(xn Z (Nat.blt_eq.mp a)).1;show j+1<=vc Z m (jy Z m j);omega
  |false=>exact h
theorem Rj(Z:Nat->Int)(m:Nat):∃r,r<=m/\jy Z m r=m/\∀j,j<r->jy Z m j<m/\jy Z m (j+1)=vc Z m (jy Z m j):=by
 have go:∀d r,r+d=m->(∀j,j<r->jy Z m j<m)->∃r,r<=m/\jy Z m r=m/\∀j,j<r->jy Z m j<m:=λd=>by
  induction d with
  |zero=>exactλr h c=>⟨r,O,Nat.le_antisymm (Hr Z m r) (by have:=NC Z m r O;omega),c⟩
  |succ d g=>
   intro r h c
   rcases Nat.lt_or_ge (jy Z m r) m with a|a
   ·exact g (r+1) O λj b=>by
     by_cases e:j=r
     ·rw[e];exact a
     ·exact c j O
   ·exact⟨r,O,Nat.le_antisymm (Hr Z m r) a,c⟩
 obtain⟨r,a,i,f⟩:=go m 0 O λj b=>absurd b (lZ j)
 refine⟨r,a,i,λj b=>⟨f j b,?_⟩⟩
 show(bif Nat.blt (jy Z m j) m then vc Z m (jy Z m j)else m)=_
 rw[show Nat.blt (jy Z m j) m=true from Nat.blt_eq.mpr (f j b)];rfl
def pM(W:Nat->Nat):Nat->Nat
 |0=>0
 |n+1=>pM W n+W n
theorem Rk(C:Nat->Bool)(a b:Nat):aP C (a+b)=aP C a+aP (λi=>C (a+i)) b:=by
 induction b with
 |zero=>rfl
 |succ b c=>
  rw[<-Nat.add_assoc]
  cases h:C (a+b)with
  |true=>rw[iE h,iE (p:=λi=>C (a+i)) h,c];omega
  |false=>rw[kO h,kO (p:=λi=>C (a+i)) h,c]
theorem Hs(Z:Nat->Int)(m:Nat)(C:Nat->Bool):∀r,(∀j,j<r->jy Z m j<m/\jy Z m (j+1)=vc Z m (jy Z m j))->pM (λj=>aP (λi=>C (jy Z m j+i)) (jy Z m (j+1)-jy Z m j)) r=aP C (jy Z m r)
 |0,_=>rfl
 |r+1,h=>by
  have a:=Hs Z m C r λj c=>h j O
  obtain⟨b,d⟩:=h r O
  have:=(xn Z b).1
  show pM _ r+aP _ _=_
  rw[a,<-Rk,show jy Z m r+(jy Z m (r+1)-jy Z m r)=jy Z m (r+1) by omega]
end Go.Sx
end
section
set_option maxRecDepth 1000000
namespace Go.Sx
open Go
theorem TN:isNat [48]=true:=by rw[<-ly];exact dc (jL (n:=0) O)
def ru(S:Nat->List UInt8)(j:Nat):Nat:=ao (S j)
theorem Oe{W:Nat->Nat}{b:Nat}:∀{n},(∀j,j<n->W j<=b)->pM W n<=b*n
 |0,_=>dw _
 |n+1,h=>by
  have:=Oe (W:=W) (b:=b) (n:=n) λj a=>h j O
  have:=h n O
  show pM W n+W n<=_
  rw[Nat.mul_add];omega
theorem K4{n:Nat}(h:n<9223372036854775808):isNat (bu n)=true:=dc (jL h)
theorem TO{n:Nat}{S:Nat->List UInt8}(l:n<=400)(hS:∀j,j<n->isNat (S j)=true/\ao (S j)<10000):aE PP II false (aD II 137 2001) 19 (LH 15 138 n S (λi=>bu (pM (ru S) i.toNat)) 0) (LI 15 (bu (pM (ru S) n))):=by
 have key:=aE.of (ι:=Int) iw [Du,Ed] (bm PP II []) 1000 (c:=aD II 137 2001) (ir:=false) 19 (λi=> ∃k:Nat,i=(k:Int)/\k<=n) (λi=>LH 15 138 n S (λi=>bu (pM (ru S) i.toNat)) i) (λ_=>LI 15 (bu (pM (ru S) n))) (λi=>n-i.toNat) (λi=>i+1) 0 A ⟨0,rfl,Nat.zero_le n⟩ λp d=>?_
 ·exact key
 have m:Int.ofNat n=(n:Int):=rfl
 have r1:an n (nX S) (nX S):=λj _ σ=>tl σ S j
 obtain⟨k,rfl,o⟩:=d
 have go:∀Q:Prop,(k<n->Q)->kr [Du,Ed] [] 137 2001 19 (LH 15 138 n S (λi=>bu (pM (ru S) i.toNat))) (λ_=>LI 15 (bu (pM (ru S) n))) (λi=>i+1) Q (k:Int):=λQ hQ=>by
  rw[TL,show Int.toNat (k:Int)=k from rfl,show Int.toNat ((k:Int)+1)=k+1 by omega,cq]
  refine Zg (λh=>?_) λh=>?_
  ·have a:k<n:=by omega
   obtain⟨f,q⟩:=hS k a
   have r:=Oe (W:=ru S) (b:=10000) (n:=k) λj s=>Nat.le_of_lt (hS j O).2
   have g:(decide ((0:Int)<=(k:Int))&&decide ((k:Int)<Int.ofNat n))=true:=by simp only[bf,bn];omega
   have hn:=hQ a
   rw[f,K4 (O:pM (ru S) k<9223372036854775808),kV (O:ao (S k)<=100000000),kV (O:ao (S k)<=2305843009213693952),kV (O:pM (ru S) k<=2305843009213693952)]
   refine cC _ _ g (cC _ _ A (cC _ _ (by rw[bW A];rfl) (cC _ _ A (cC _ _ (aq O O) ?_))))
   exact ZG
  ·have e:k=n:=by omega
   subst e
   exact ZH
 exact go _ λh=>⟨⟨k+1,rfl,O⟩,ZE,rfl⟩
theorem TP{n:Nat}{S:Nat->List UInt8}(hS:∀j,j<n->isNat (S j)=true/\ao (S j)<10000)(l:n<=400):aE PP II false (aD II 137 2001) 23 (LH 19 140 n S (λ_=>[48]) 0) (LI 19 [48]):=by
 have key:=aE.of (ι:=Int) iw [Du,QL,Ed,Q7] (bm PP II []) 1000 (c:=aD II 137 2001) (ir:=false) 23 (λi=> ∃k:Nat,i=(k:Int)/\k<=n) (λi=>LH 19 140 n S (λ_=>[48]) i) (λ_=>LI 19 [48]) (λi=>n-i.toNat) (λi=>i+1) 0 A ⟨0,rfl,Nat.zero_le n⟩ λp d=>?_
 ·exact key
 have m:Int.ofNat n=(n:Int):=rfl
 have r1:an n (nX S) (nX S):=λj _ σ=>tl σ S j
 have f:bu 0=[48]:=ly
 obtain⟨k,rfl,o⟩:=d
 have go:∀Q:Prop,(k<n->Q)->kr [Du,QL,Ed,Q7] [] 137 2001 23 (LH 19 140 n S (λ_=>[48])) (λ_=>LI 19 [48]) (λi=>i+1) Q (k:Int):=λQ hQ=>by
  rw[TM,show Int.toNat (k:Int)=k from rfl]
  try rw[Xj]
  try rw[Wv]
  refine Zg (λh=>?_) λh=>?_
  ·have b:k<n:=by omega
   obtain⟨g,a⟩:=hS k b
   have q:(decide ((0:Int)<=(k:Int))&&decide ((k:Int)<Int.ofNat n))=true:=by simp only[bf,bn];omega
   have hn:=hQ b
   have r:=Nat.mul_le_mul (Nat.le_of_lt a) (Nat.le_of_lt a)
   simp only[cq,Bh,il,Nat.mul_zero,Nat.mul_one,Nat.add_zero,f,GR,g,TN,jz,K4 (O:ao (S k)*ao (S k)<9223372036854775808),kV (O:ao (S k)<=100000000),kV (O:ao (S k)*ao (S k)<=100000000),show Nat.blt (ao (S k)) 10000=true from Nat.blt_eq.mpr a,decide_true,Bool.and_self]
   refine cC _ _ O (cC _ _ A (cC _ _ A (cC _ _ A (cC _ _ A (cC _ _ A (cC _ _ A (cC _ _ (aq O O) ?_)))))))
   exact ZG
  ·have e:k=n:=by omega
   subst e
   exact ZH
 exact go _ λh=>⟨⟨k+1,rfl,O⟩,ZE,rfl⟩
theorem vo{n:Nat}{S:Nat->List UInt8}(hS:∀j,j<n->isNat (S j)=true/\ao (S j)<10000):mY n (lh S)=true:=List.all_eq_true.2 λj a=>by
 obtain⟨b,c⟩:=hS j (List.mem_range.1 a)
 show(isNat (S j)&&decide ([49]=[(49:UInt8)])&&Nat.blt (ao (S j)) 10000)=true
 rw[b,show Nat.blt (ao (S j)) 10000=true from Nat.blt_eq.mpr c];rfl
theorem xq(n:Nat):tp n eu=true:=List.all_eq_true.2 λ_ _=>rfl
theorem VU{n:Nat}{S:Nat->List UInt8}(a:n<=400)(hS:∀j,j<n->isNat (S j)=true/\ao (S j)<10000):af PP II 32 [.ab n 2 (lh S),.ab n 2 eu] HE (.ret (.bK [.agg [.str (bu (pM (ru S) n)),.str [49]],.agg [.str [48],.str [49]],.int .i64 0]) HE):=by
 refine Vf (ks:=[Wg]) (T:=[(2001,19,LH 15 138 n S (λi=>bu (pM (ru S) i.toNat)) 0,LI 15 (bu (pM (ru S) n))),(2001,23,LH 19 140 n S (λ_=>[48]) 0,LI 19 [48])]) ?_
 have l1:=TO a hS
 have l2:=TP hS a
 have r1:an n (nX λj=>S j) (nX S):=λj _ σ=>tl σ S j
 have c:bu (pM (ru S) (Int.toNat 0))=[48]:=ly
 rw[VT,vo hS,xq,ni,kV a,c]
 refine cC _ _ A ⟨l1,?_⟩
 have b:∀σ:Nat->Nat,AV.le σ (.bK [.agg [.str (bu (pM (ru S) n)),.str [49]],.agg [.str [48],.str [49]],.int .i64 0]) (.bK [.agg [.str (bu (pM (ru S) n)),.str [49]],.agg [.str [48],.str [49]],.int .i64 0]):=λσ=>⟨⟨rfl,rfl,trivial⟩,⟨rfl,rfl,trivial⟩,⟨rfl,rfl⟩,trivial⟩
 repeat' (first|with_reducible exact r1|with_reducible exact l2|exact b|refine cC _ _ zC ?_|with_reducible refine Zi A ?_|with_reducible refine Zf A ?_|with_reducible refine YG A ?_|with_reducible refine And.intro ?_ ?_|with_reducible rfl)
noncomputable def tc:aC PP II:=aC.S1 32
 (λX args c=>match args with
  |[.ab n 2 f,.ab m 2 g]=>X.ak (Nat.beq n m&&Nat.ble n 400&&mY n f&&tp n g) (c (.bK [.agg [.str (bu (pM (ru (pS f)) n)),.str [49]],.agg [.str [48],.str [49]],.int .i64 0]))
  |_=>X.fail)
 λX sem hX args c h=>by
  split at h
  ·rename_i n f m g
   obtain⟨d,e⟩:=hX.ak _ _ h
   simp only[bf]at d
   obtain⟨⟨⟨a1,a2⟩,b⟩,a4⟩:=d
   cases dE a1
   have b:=zT b
   refine⟨_,e,λ_=>rfl,λ_=>rfl,(VU (S:=pS f) (jX a2) λj a=>(b j a).2).dq ⟨⟨rfl,rfl,λj a=>?_⟩,⟨rfl,rfl,λj a=>?_⟩,trivial⟩⟩
   ·rw[(b j a).1];exact tn _ _ j
   ·rw[FV a4 j a];exact pr _ j
  ·exact zR
end Go.Sx
end
section
set_option maxRecDepth 1000000
namespace Go.Sx
open Go
theorem af.W5{P:Program}{I:ba}{f:FuncId}{args:List AV}{a:AV}{H0 H:AH}{m:Nat}(h:af P I f args H0 (.ret a H0))(hn:H0.n=m)(y:I.G<=m)(C:m<=H.n)(o:∀i,m<=i->H0.get i= .dead)
  (q:∀i,i<m->H0.get i≠ .dead->H.get i=H0.get i/\∀σ:Nat->Nat,(∀j,j<m->σ j=j)->(H0.get i).bD σ=H0.get i) (s:∀σ,bt.bD σ args=args) (ha:∀σ,a.bD σ=a):
  af P I f args H (.ret a H):=by
 intro c ρ w vs hG D t
 let σ:Nat->Nat:=λl=>if l<m then l else H.n+(l-m)
 have b:∀i,i<m->σ i=i:=λi hi=>by simp only[σ,if_pos hi]
 have d:∀i,H0.get i≠ .dead->i<m:=λi hi=>Nat.lt_of_not_le λe=>hi (o i e)
 have u:∀l,H0.get l≠ .dead->H.get (σ l)=(H0.get l).bD σ:=λl hl=>by
  obtain⟨E,F⟩:=q l (d l hl) hl
  rw[b l (d l hl),F σ b,E]
 have J:Sub I.G σ H0 H :=
  {lt:=λl hl=>by rw[hn]at hl;rw[b l hl];omega
   ge:=λl hl=>by
    rw[hn]at hl⊢
    have :¬ l<m:=Nat.not_lt.2 hl
    simp only[σ,if_neg this]
   same:=u
   inj:=λl v K L e=>by rw[b l (d l K),b v (d v L)]at e;exact e
   fp:=λg N=>⟨by rw[hn];omega,b g O⟩
   low:=λl hl=>o l (by rw[hn]at hl;exact hl)}
 have ht:Eb σ H0 (CO.ret a H0).heap H H :=
  {n:=by show H.n=H.n+(H0.n-H0.n);omega
   old:=u
   new:=λl hl=>by
    rw[hn]at hl
    have :¬ l<m:=Nat.not_lt.2 hl
    show H.get (σ l)=(H0.get l).bD σ
    rw[o l hl]
    simp only[σ,if_neg this]
    rw[t.low _ O]
    rfl
   rest:=λ_ _ _=>rfl}
 have:=h.lift J ht
 rw[s]at this
 have e:(CO.ret a H0).iT σ H= .ret a H:=by
  show CO.ret (a.bD σ) H=_
  rw[ha]
 rw[e]at this
 exact this c ρ w vs hG D t
noncomputable def Hm:AH:={n:=14,t:=Tr.ofList [(0,.cells [.ab 5 2 aA] .ro),(1,.cells [.str [48],.str [49]] .ro),(2,.cells [.int .i64 7,.int .i64 9,.int .i64 11,.int .i64 99] .ro),(3,.cells [.map (some 13)] .ro),(6,.cells dz (.ex 20)),(9,.cells [.str [48],.str [49]] .ro),(10,.cells [.str [49],.str [49]] .ro),(13,.map lS)]}
open Classical in
noncomputable def FY(c d e f g h a b:ai):Bool:=decide (c=Hm.get 0/\d=Hm.get 1/\e=Hm.get 2/\f=Hm.get 3/\g=Hm.get 6/\h=Hm.get 9/\a=Hm.get 10/\b=Hm.get 13)
noncomputable def ye(H:AH):Bool:=Nat.ble 14 H.n&&FY (H.get 0) (H.get 1) (H.get 2) (H.get 3) (H.get 6) (H.get 9) (H.get 10) (H.get 13)
open Classical in
theorem Bl{e f g h i j a b:ai}(k:e=Hm.get 0)(l:f=Hm.get 1)(m:g=Hm.get 2)(n:h=Hm.get 3)(o:i=Hm.get 6)(p:j=Hm.get 9)(c:a=Hm.get 10)(d:b=Hm.get 13):FY e f g h i j a b=true:=by
 unfold FY
 exact bW ⟨k,l,m,n,o,p,c,d⟩
theorem FZ(i:Nat):Hm.get i=if i=13 then Hm.get 13 else if i=10 then Hm.get 10 else if i=9 then Hm.get 9 else if i=6 then Hm.get 6 else if i=3 then Hm.get 3 else if i=2 then Hm.get 2 else if i=1 then Hm.get 1 else if i=0 then Hm.get 0 else .dead:=by
 repeat' split
 all_goals first
  |(rename_i h;rw[h];done)
  |skip
 unfold Hm
 simp only[AH.get,Tr.ofList,Tr.bH,Tr.qV]
 simp[*]
theorem sh{P:Nat->ai->Prop}(d:P 0 (Hm.get 0))(e:P 1 (Hm.get 1))(f:P 2 (Hm.get 2))(g:P 3 (Hm.get 3))(j:P 6 (Hm.get 6))(k:P 9 (Hm.get 9))(a:P 10 (Hm.get 10))(b:P 13 (Hm.get 13))(c:∀i,P i .dead)(i:Nat):P i (Hm.get i):=by
 rw[FZ]
 repeat' split
 all_goals first
  |exact c i
  |(rename_i h;rw[h];assumption)
open Classical in
theorem Hv{H:AH}(h:ye H=true):14<=H.n/\∀i,Hm.get i≠ .dead->H.get i=Hm.get i:=by
 unfold ye FY at h
 simp only[bf,bn]at h
 obtain⟨d,f,k1,g,j,k,l,a,c⟩:=h
 refine⟨jX d,λi=>?_⟩
 exact sh (P:=λi b=>b≠ .dead->H.get i=b) (λ_=>f) (λ_=>k1) (λ_=>g) (λ_=>j) (λ_=>k) (λ_=>l) (λ_=>a) (λ_=>c) (λi e=>absurd A e) i
theorem UT(σ:Nat->Nat)(i:Nat):bt.le σ (aA i) (aA i):=by
 unfold aA
 split
 ·exact⟨rfl,trivial,trivial⟩
 all_goals exact⟨rfl,⟨rfl,trivial,trivial⟩,trivial⟩
theorem W6(σ:Nat->Nat)(h:σ 13=13)(l:Nat):(Hm.get l).le σ (Hm.get l):=
 sh (P:=λ_ b=>b.le σ b) ⟨⟨⟨rfl,rfl,λi _=>UT _ i⟩,trivial⟩,trivial⟩ ⟨⟨rfl,rfl,trivial⟩,trivial⟩ ⟨⟨⟨rfl,rfl⟩,⟨rfl,rfl⟩,⟨rfl,rfl⟩,⟨rfl,rfl⟩,trivial⟩,trivial⟩ ⟨⟨h.symm,trivial⟩,trivial⟩ ⟨pz _,rfl⟩ ⟨⟨rfl,rfl,trivial⟩,trivial⟩ ⟨⟨rfl,rfl,trivial⟩,trivial⟩
   ⟨rfl,⟨⟨rfl,rfl⟩,⟨rfl,rfl⟩,⟨rfl,rfl⟩,⟨rfl,rfl⟩,⟨rfl,rfl⟩,trivial⟩,⟨⟨⟨rfl,trivial,trivial⟩,trivial⟩,⟨⟨rfl,trivial,trivial⟩,trivial⟩,⟨⟨rfl,trivial,trivial⟩,trivial⟩,⟨⟨rfl,trivial,trivial⟩,trivial⟩,⟨⟨rfl,trivial,trivial⟩,trivial⟩,trivial⟩⟩ (λ_=>trivial) l
theorem tA{H:AH}(h:ye H=true):im Hm.n [] H Hm:=by
 obtain⟨k2,f⟩:=Hv h
 refine im.of A A A (by rfl) (kV k2) (gS.2 λl hl=>?_)
 have hl:l<14:=hl
 have a:∀j,j<14->sig Hm.n [] H.n j=j:=λj g=>by
  unfold sig
  rw[show Nat.blt j Hm.n=true from(Nat.blt_eq ..).mpr g];rfl
 have c:∀b:ai,(b≠ .dead->H.get l=b)->b.le (sig Hm.n [] H.n) b->tO (sig Hm.n [] H.n) H.n l H b:=λb i k=>by
  unfold tO
  split
  ·trivial
  ·rename_i d
   rw[a l hl,if_pos O,i (λe=>d e)]
   exact k
 exact c _ (f l) (W6 _ (a 13 O) l)
noncomputable abbrev Xm(ks:List (aC PP II))(T:lI)(f:FuncId)(args:List AV)(Q:AV->Prop):Prop :=
 jE ks (mG PP II T) 1000 f args Hm (λa H=>qC RI.jY 100000 a H λa' H2=>B (ye H2) (Q a')) (λ_ _=>False)
theorem VV{ks:List (aC PP II)}{T:lI}{f:FuncId}{args:List AV}{a':AV}(h:Xm ks T f args (λa=> ∀σ,AV.le σ a a')):af PP II f args Hm (.ret a' Hm):=by
 obtain⟨o,b,c⟩:=fJ iw ks (bm PP II T) 1000 f args Hm _ _ h
 cases o with
 |ret a H1=>
  obtain⟨x,H2,k1,k2⟩:=lm RI.dJ _ _ _ _ b
  obtain⟨d,k1⟩:=Zk k1
  have k1:∀σ,AV.le σ x a':=k1
  exact(c.vW k2).le (ky.of [] (tA d) (k1 _))
 |qt a H1=>exact b.elim
theorem af.J0{f:FuncId}{args:List AV}{a:AV}{H:AH}(h:af PP II f args Hm (.ret a Hm))(j:ye H=true)(ha:∀σ,a.bD σ=a)(c:∀σ,bt.bD σ args=args):af PP II f args H (.ret a H):=by
 obtain⟨k2,l⟩:=Hv j
 refine h.W5 (m:=14) A zC k2 (λi hi=>?_) (λi hi o=>⟨l i o,λσ d=>?_⟩) c ha
 ·rw[FZ,if_neg O,if_neg O,if_neg O,if_neg O,if_neg O,if_neg O,if_neg O,if_neg O]
 ·have Jh:=d 13 O
  refine sh (P:=λ_ b=>b.bD σ=b) A A A ?_ ?_ A A A (λ_=>rfl) i
  ·show ai.cells [.map (some (σ 13))] .ro=_
   rw[Jh];rfl
  ·show ai.cells (bt.bD σ dz) (.ex 20)=_
   rw[nN];rfl
noncomputable def aC.J0(f:FuncId)(spec:{R:Type}->RI R->List AV->(AV->R)->R)
  (ok:∀{R:Type}(X:RI R)(sem:R->Prop),X.Ok sem->∀args c,sem (spec X args c)->∃a,sem (c a)/\(∀σ,a.bD σ=a)/\(∀σ,bt.bD σ args=args)/\af PP II f args Hm (.ret a Hm)):aC PP II where
 f:=f
 spec X args H c _:=jK X 100000 args H λb H'=>X.ak (ye H') (spec X b λa=>c a H')
 ok X sem hX args H c kp h:=by
  obtain⟨b,H',d,i⟩:=gC hX _ _ _ _ h
  obtain⟨j,d⟩:=hX.ak _ _ d
  obtain⟨a,k1,k2,l,m⟩:=ok X sem hX _ _ d
  exact⟨.ret a H',k1,(m.J0 j k2 l).nI i⟩
end Go.Sx
end
section
set_option maxRecDepth 1000000
namespace Go.Sx
open Go
def gW(q:Query):Query:=⟨q.nw,q.C,q.ng,q.G,1,q.fl,q.nu,q.de,0⟩
noncomputable def hS(q:Query)(n:Nat)(a:List (Nat×ai)):AH:={n:=n,t:=Tr.ofList ([(0,.cells [.ab 5 2 aA] .ro),(1,.cells [.str [48],.str [49]] .ro),(2,.cells [.int .i64 7,.int .i64 9,.int .i64 11,.int .i64 99] .ro),(3,.cells [.map (some 13)] .ro),(6,.cells dz (.ex 20)),(9,.cells [.str [48],.str [49]] .ro),(10,.cells [.str [49],.str [49]] .ro),(13,.map lS),(14,.cells (aY q) (.ty 32))]++a)}
noncomputable def Wx(q:Query)(n k:Nat)(F:Nat->ay)(no:Nat)(K:Nat->Nat->Int)(S:Nat->Nat->List UInt8)(j:Nat)(a C:Nat->List UInt8):AH:=hS q n [(15,.rows k 10 (λj=>aF (F j)) .ro),(16,.rows no 9 (aX q.ng K S) (.ty 44)),(17,.rows j 2 (lh a) (.ty 30)),(18,.rows j 2 (lh C) (.ty 30)),(19,.rows j 2 eu (.ty 30))]
noncomputable def Wy(q:Query)(k:Nat)(F:Nat->ay)(n:Nat)(X:Nat->bj)(no:Nat)(i:Int)(b:bj)(j:Nat)(a:Int)(c:List (Nat×AV)):Tr AV:=Tr.ofList ([(1,.ab k 12 (eD F)),(2,.ptr 14 0 0 0),(6,.own 15 k 10),(9,.own 16 no 9),(11,.fc (qL q.ng b) 0),(12,.own 17 j 2),(13,.own 18 j 2),(14,.own 19 j 2),(15,.int .i64 a),(59,.ab n 1 (qN q.ng X)),(60,.int .i64 (Int.ofNat n)),(61,.int .i64 i)]++c)
noncomputable def Rl(q:Query)(k:Nat)(F:Nat->ay)(n:Nat)(X:Nat->bj)(no:Nat)(K:Nat->Nat->Int)(S:Nat->Nat->List UInt8)(i:Int)(c:bj)(a C:Nat->List UInt8)(m:Int->Nat)(b:Int->Int)(j:Int):St:={t:=Wy q k F n X no i c (m j) (b j) [],nt:=177,H:=Wx q 20 k F no K S (m j) a C,df:=[]}
noncomputable def Rm(q:Query)(k:Nat)(F:Nat->ay)(n:Nat)(X:Nat->bj)(no:Nat)(K:Nat->Nat->Int)(S:Nat->Nat->List UInt8)(i:Int)(b:bj)(a C:Nat->List UInt8)(r:Nat)(zE:Int):GE:=.one (.x 4 {t:=Wy q k F n X no i b r zE [],nt:=177,H:=Wx q 20 k F no K S r a C,df:=[]})
noncomputable def Oi(q:Query):aC PP II:=aC.s9 41
 (λX args c=>match args with
  |[.agg cs,.ab k 3 r]=>X.ak (qT q cs&&ct q&&decide (q.a=1)&&lD k r&&bX k (ka r)&&bX k (iF r)) (c (.bK [.agg [.str (bu (aP (iG r) k)),.str [49]],.agg [.str (bu k),.str [49]]]))
  |_=>X.fail)
 λX sem hX args c h=>by
  split at h
  ·rename_i cs k r
   obtain⟨d,e⟩:=hX.ak _ _ h
   simp only[bf,bn]at d
   obtain⟨⟨⟨⟨⟨a1,a2⟩,a0⟩,f⟩,a4⟩,g⟩:=d
   obtain⟨r1,i,j⟩:=eb a2
   obtain⟨l1,l2⟩:=mi a1
   refine⟨_,e,λ_=>rfl,λσ=>?_,?_⟩
   ·show [AV.bD σ (.agg _),_]=_
    rw[l2];rfl
   ·have b:=af.dA (Jt r1 i j a4 g) l1 (oL f)
    unfold CW at b
    rw[zu a0,zK a0]at b
    exact b
  ·exact zR
open Classical in
noncomputable def J6(q:Query)(a:Nat)(X:Nat->bj)(k:Nat)(f:Nat->List AV):Bool:=decide ((aV q (bP f) k).length=a/\og q (aV q (bP f) k)=X)
open Classical in
theorem FW{q:Query}{a:Nat}{X:Nat->bj}{k:Nat}{f:Nat->List AV}:J6 q a X k f=true↔(aV q (bP f) k).length=a/\og q (aV q (bP f) k)=X:=by
 unfold J6
 exact decide_eq_true_iff
noncomputable def J7(q:Query)(b:Nat)(X:Nat->bj):aC PP II:=aC.s9 40
 (λa args c=>match args with
  |[.agg cs,.ab k 10 f]=>a.ak (qT q cs&&ct q&&Nat.ble k 1000000&&ie k f&&J6 q b X k f) (c (.ab b 1 (qN q.ng X)))
  |_=>a.fail)
 λa sem hX args c h=>by
  split at h
  ·rename_i cs k f
   obtain⟨d,e⟩:=hX.ak _ _ h
   simp only[bf]at d
   obtain⟨⟨⟨⟨a1,a2⟩,j⟩,a4⟩,l⟩:=d
   obtain⟨l1,l2⟩:=mi a1
   unfold ie at a4
   simp only[bf]at a4
   obtain⟨m,n⟩:=FW.1 l
   have g:=af.dA (JP a2 (jX j) λi hi=>List.all_eq_true.1 a4.2 i (List.mem_range.2 hi)) l1 (fq a4.1)
   refine⟨_,e,λ_=>rfl,λσ=>?_,?_⟩
   ·show [AV.bD σ (.agg _),_]=_
    rw[l2];rfl
   ·rw[<-m,<-n];exact g
  ·exact zR
noncomputable def VW(q:Query)(k:Nat)(F:Nat->ay)(m:Int->Nat)(i:Int):St:={t:=Tr.ofList [(1,.ab k 12 (eD F)),(2,.ptr 14 0 0 0),(6,.own 15 (m i) 10),(45,.ab k 12 (eD F)),(46,.int .i64 (Int.ofNat k)),(47,.int .i64 i)],nt:=177,H:=hS q 16 [(15,.rows (m i) 10 (λj=>aF (F j)) (.ty 48))],df:=[]}
noncomputable def VX(q:Query)(k:Nat)(F:Nat->ay):GE:=.one (.x 0 {t:=Tr.ofList [(1,.ab k 12 (eD F)),(2,.ptr 14 0 0 0),(6,.own 15 k 10)],nt:=177,H:=hS q 16 [(15,.rows k 10 (λj=>aF (F j)) (.ty 48))],df:=[]})
theorem T9(q:Query)(k:Nat)(F:Nat->ay)(m:Int->Nat)(i:Int)(Q:Prop):(kr [] [] 23 5001 15 (VW q k F m) (λ_=>VX q k F) (λi=>i+1) Q i)=(ah (decide (i<Int.ofNat k)) (B (decide (0<=i)&&decide (i<Int.ofNat k)) (B (decide (m i<=m i)&&true&&true&&decide ((m i+1)*80<=140737488355328)&&true) (B (aN .i64 (i+1)) (ax (m i+1) (m (i+1)) ((an (m i+1) (λc=>bif Nat.blt c (m i)then aF (F c)else List.take 10 (List.drop (0+(c-m i)*10) [AV.int .i64 (ay.t (F i.toNat)),AV.int .i64 (ay.s (F i.toNat)),AV.int .i64 (ay.v (F i.toNat)),AV.int .i64 (ay.w (F i.toNat)),AV.int .i64 (ay.o (F i.toNat)),AV.int .i64 (ay.p (F i.toNat)),AV.int .i64 (ay.d (F i.toNat)),AV.int .i64 (ay.l (F i.toNat)),AV.int .i64 (ay.h (F i.toNat)),AV.int .i64 (ay.b (F i.toNat))])) λj=>aF (F j))/\zyN q.nw (zyR q.nw (au q.C) (zyN q.ng (zyR q.ng (aR q.G) (zyI q.a (zyI q.fl (zyB q.nu (zyB q.de (zyI q.top (zyB [49] (zyB [49] (zyB [48] (zyB [49] (zyB [48] (zyB [49] (zyR 5 aA (zyI (i+1) (zyN k (zyR k (eD F) (zyN k (zyR k (eD F) (ax (m i+1) (m (i+1)) (zyI (Int.ofNat k) Q))))))))))))))))))))))))))) (ax (m i) k ((an (m i) (λj=>aF (F j)) λj=>aF (F j))/\zyN q.nw (zyR q.nw (au q.C) (zyN q.ng (zyR q.ng (aR q.G) (zyI q.a (zyI q.fl (zyB q.nu (zyB q.de (zyI q.top (zyB [49] (zyB [49] (zyB [48] (zyB [49] (zyB [48] (zyB [49] (zyR 5 aA (zyN k (zyR k (eD F) (ax (m i) k True))))))))))))))))))))):=U
noncomputable def RJ(q:Query)(k:Nat)(F:Nat->ay)(n:Nat)(X:Nat->bj)(no:Nat)(K:Nat->Nat->Int)(S:Nat->Nat->List UInt8)(i:Int)(c:bj)(a C:Nat->List UInt8)(m:Nat)(b:Int)(x:Int):St:={t:=Wy q k F n X no i c m b [(16,.int .i64 x)],nt:=177,H:=Wx q 20 k F no K S m a C,df:=[]}
noncomputable def RL(q:Query)(k:Nat)(F:Nat->ay)(n:Nat)(X:Nat->bj)(no:Nat)(K:Nat->Nat->Int)(S:Nat->Nat->List UInt8)(i:Int)(c:bj)(a C:Nat->List UInt8)(m:Nat)(b:Int)(x:Int):GE:=.one (.x 6 {t:=Wy q k F n X no i c m b [(16,.int .i64 x)],nt:=177,H:=Wx q 20 k F no K S m a C,df:=[]})
theorem Ur(q:Query)(k:Nat)(F:Nat->ay)(n:Nat)(X:Nat->bj)(no:Nat)(K:Nat->Nat->Int)(S:Nat->Nat->List UInt8)(i:Int)(d:bj)(b C:Nat->List UInt8)(m:Nat)(c:Int)(e:Int)(x:Int)(Q:Prop):(kr [] [] 23 17032 20 (RJ q k F n X no K S i d b C m c) (λ_=>RL q k F n X no K S i d b C m c e) (λi=>i+1) Q x)=(ah (decide (x<Int.ofNat d.m)) (B (decide (0<=x)&&decide (x<Int.ofNat d.m)) (B (decide (0<=d.T x.toNat)&&decide (d.T x.toNat<Int.ofNat k)) (B (decide (Int.toNat (d.T x.toNat)<k)) (B (decide (0<=c)&&decide (c<Int.ofNat d.m)) (B (decide (0<=d.T c.toNat)&&decide (d.T c.toNat<Int.ofNat k)) (B (decide (Int.toNat (d.T c.toNat)<k)) (ah (decide (ay.t (F (Int.toNat (d.T x.toNat)))=ay.t (F (Int.toNat (d.T c.toNat))))) (B (aN .i64 (x+1)) (zyN m (zyR m eu (zyN m (zyR m (lh C) (zyN m (zyR m (lh b) (zyN no (zyR no (aX q.ng K S) (zyN k ((an k (λj=>aF (F j)) λj=>aF (F j))/\zyN q.nw (zyR q.nw (au q.C) (zyN q.ng (zyR q.ng (aR q.G) (zyI q.a (zyI q.fl (zyB q.nu (zyB q.de (zyI q.top (zyB [49] (zyB [49] (zyB [48] (zyB [49] (zyB [48] (zyB [49] (zyR 5 aA (zyI c (zyN q.ng (zyR q.ng (ae d.W) (zyN d.m (zyR d.m (az d.L d.G d.C) (zyN d.m (zyR d.m (ae d.T) (zyN n (zyR n (qN q.ng X) (zyN k (zyR k (eD F) (zyN no (zyN m (zyI i (zyI (x+1) (zyN m (zyI (Int.ofNat n) (zyN k (zyN m Q))))))))))))))))))))))))))))))))))))))))))))) (zyN m (zyR m eu (zyN m (zyR m (lh C) (zyN m (zyR m (lh b) (zyN no (zyR no (aX q.ng K S) (zyN k ((an k (λj=>aF (F j)) λj=>aF (F j))/\zyN q.nw (zyR q.nw (au q.C) (zyN q.ng (zyR q.ng (aR q.G) (zyI q.a (zyI q.fl (zyB q.nu (zyB q.de (zyI q.top (zyB [49] (zyB [49] (zyB [48] (zyB [49] (zyB [48] (zyB [49] (zyR 5 aA (zyI c (zyN q.ng (zyR q.ng (ae d.W) (zyN d.m (zyR d.m (az d.L d.G d.C) (zyN d.m (zyR d.m (ae d.T) (zyN n (zyR n (qN q.ng X) (zyN k (zyR k (eD F) (zyN no (zyN m (zyI i (aH x e (zyN m (zyI (Int.ofNat n) (zyN k (zyN m True))))))))))))))))))))))))))))))))))))))))))))))))))) (zyN m (zyR m eu (zyN m (zyR m (lh C) (zyN m (zyR m (lh b) (zyN no (zyR no (aX q.ng K S) (zyN k ((an k (λj=>aF (F j)) λj=>aF (F j))/\zyN q.nw (zyR q.nw (au q.C) (zyN q.ng (zyR q.ng (aR q.G) (zyI q.a (zyI q.fl (zyB q.nu (zyB q.de (zyI q.top (zyB [49] (zyB [49] (zyB [48] (zyB [49] (zyB [48] (zyB [49] (zyR 5 aA (zyI c (zyN q.ng (zyR q.ng (ae d.W) (zyN d.m (zyR d.m (az d.L d.G d.C) (zyN d.m (zyR d.m (ae d.T) (zyN n (zyR n (qN q.ng X) (zyN k (zyR k (eD F) (zyN no (zyN m (zyI i (aH x e (zyN m (zyI (Int.ofNat n) (zyN k (zyN m True))))))))))))))))))))))))))))))))))))))))))))):=U
theorem Oj(q:Query)(k:Nat)(F:Nat->ay)(n:Nat)(X:Nat->bj)(no:Nat)(K:Nat->Nat->Int)(S:Nat->Nat->List UInt8)(i:Int)(d:bj)(b C:Nat->List UInt8)(m:Int->Nat)(c:Int->Int)(r:Nat)(zE:Int)(e:Int)(j:Int)(Q:Prop):(kr [Oi q] [(17032,20,RJ q k F n X no K S i d b C (m j) (c j) (c j),RL q k F n X no K S i d b C (m j) (c j) e)] 23 15007 17 (Rl q k F n X no K S i d b C m c) (λ_=>Rm q k F n X no K S i d b C r zE) (λi=>i+1) Q j)=(ah (decide (c j<Int.ofNat d.m)) (aE PP II false (aD II 23 17032) 20 (RJ q k F n X no K S i d b C (m j) (c j) (c j)) (RL q k F n X no K S i d b C (m j) (c j) e)/\zyN (m j) (zyR (m j) eu (zyN (m j) (zyR (m j) (lh C) (zyN (m j) (zyR (m j) (lh b) (zyN no (zyR no (aX q.ng K S) (zyN k ((an k (λj=>aF (F j)) λj=>aF (F j))/\zyN q.nw (zyR q.nw (au q.C) (zyN q.ng (zyR q.ng (aR q.G) (zyI q.a (zyI q.fl (zyB q.nu (zyB q.de (zyI q.top (zyB [49] (zyB [49] (zyB [48] (zyB [49] (zyB [48] (zyB [49] (zyR 5 aA (zyI (c j) (zyN q.ng (zyR q.ng (ae d.W) (zyN d.m (zyR d.m (az d.L d.G d.C) (zyN d.m (zyR d.m (ae d.T) (zyN n (zyR n (qN q.ng X) (zyN k (zyR k (eD F) (zyN no (zyN (m j) (zyI i (zyI (c j) (zyN (m j) (zyI (Int.ofNat n) (zyN k (zyN (m j) (B (decide (0<=c j)&&decide (c j<=e)&&decide (e<=Int.ofNat d.m)) (B (((qT q [AV.ab q.nw 3 (au q.C),AV.ab q.ng 1 (aR q.G),AV.int .i64 q.a,AV.int .i64 q.fl,AV.str q.nu,AV.str q.de,AV.int .i64 q.top]&&ct q&&decide (q.a=1)&&lD (Int.toNat (e-c j)) λi=>az d.L d.G d.C (Int.toNat (c j)+i))&&bX (Int.toNat (e-c j)) λi=>d.L (Int.toNat (c j)+i))&&bX (Int.toNat (e-c j)) λi=>d.G (Int.toNat (c j)+i)) (B (decide (m j<=m j)&&true&&true&&decide ((m j+1)*32<=140737488355328)&&true) (B (decide (bu (Int.toNat (e-c j))=bu (Int.toNat (e-c j)))&&true) (B (decide (m j<=m j)&&true&&true&&decide ((m j+1)*32<=140737488355328)&&true) (B (decide (d.m=d.m)&&true&&List.all (List.range d.m) λi=>decide (d.T i=d.T i)&&true) (B (decide (d.m=d.m)&&true&&List.all (List.range d.m) λi=>decide (d.T i=d.T i)&&true) (B (decide (0<=c j)&&decide (c j<Int.ofNat d.m)) (B (decide (d.T (Int.toNat (c j))=d.T (Int.toNat (c j)))) (B (decide (d.T (Int.toNat (c j))=d.T (Int.toNat (c j)))) (B (decide (0<=d.T (Int.toNat (c j)))&&decide (d.T (Int.toNat (c j))<Int.ofNat k)) (B (decide (m j<=m j)&&true&&true&&decide ((m j+1)*32<=140737488355328)&&true) (ax (m j+1) (m (j+1)) (an (m j+1) (λi=>bif Nat.blt i (m j)then eu i else List.take 2 (List.drop (0+(i-m j)*2) [AV.str [49],AV.str [49]])) eu/\ax (m j+1) (m (j+1)) (an (m j+1) (λi=>bif Nat.blt i (m j)then lh C i else List.take 2 (List.drop (0+(i-m j)*2) [AV.str (bu (Int.toNat (e-c j))),AV.str [49]])) (lh C)/\ax (m j+1) (m (j+1)) (an (m j+1) (λi=>bif Nat.blt i (m j)then lh b i else List.take 2 (List.drop (0+(i-m j)*2) [AV.str (bu (aP (λi=>d.C (Int.toNat (c j)+i)) (Int.toNat (e-c j)))),AV.str [49]])) (lh b)/\zyN no (zyR no (aX q.ng K S) (zyN k ((an k (λj=>aF (F j)) λj=>aF (F j))/\zyN q.nw (zyR q.nw (au q.C) (zyN q.ng (zyR q.ng (aR q.G) (zyI q.a (zyI q.fl (zyB q.nu (zyB q.de (zyI q.top (zyB [49] (zyB [49] (zyB [48] (zyB [49] (zyB [48] (zyB [49] (zyR 5 aA (aH e (c (j+1)) (zyN q.ng (zyR q.ng (ae d.W) (zyN d.m (zyR d.m (az d.L d.G d.C) (zyN d.m (zyR d.m (ae d.T) (zyN n (zyR n (qN q.ng X) (zyN k (zyR k (eD F) (zyN no (ax (m j+1) (m (j+1)) (zyI i (ax (m j+1) (m (j+1)) (zyI (Int.ofNat n) (zyN k (ax (m j+1) (m (j+1)) Q)))))))))))))))))))))))))))))))))))))))))))))))))))))))))))))))))))))))))))))))))))))))))))))))) (ax (m j) r (zyR (m j) eu (ax (m j) r (zyR (m j) (lh C) (ax (m j) r (zyR (m j) (lh b) (zyN no (zyR no (aX q.ng K S) (zyN k ((an k (λj=>aF (F j)) λj=>aF (F j))/\zyN q.nw (zyR q.nw (au q.C) (zyN q.ng (zyR q.ng (aR q.G) (zyI q.a (zyI q.fl (zyB q.nu (zyB q.de (zyI q.top (zyB [49] (zyB [49] (zyB [48] (zyB [49] (zyB [48] (zyB [49] (zyR 5 aA (aH (c j) zE (zyN q.ng (zyR q.ng (ae d.W) (zyN d.m (zyR d.m (az d.L d.G d.C) (zyN d.m (zyR d.m (ae d.T) (zyN n (zyR n (qN q.ng X) (zyN k (zyR k (eD F) (zyN no (ax (m j) r (zyI i (ax (m j) r (zyI (Int.ofNat n) (zyN k (ax (m j) r True)))))))))))))))))))))))))))))))))))))))))))):=U
noncomputable def Vj(q:Query)(k:Nat)(F:Nat->ay)(n:Nat)(X:Nat->bj)(K:Nat->Nat->Int)(S:Nat->Nat->List UInt8)(N:Int->Nat)(i:Int):St:={t:=Tr.ofList [(1,.ab k 12 (eD F)),(2,.ptr 14 0 0 0),(6,.own 15 k 10),(9,.own 16 (N i) 9),(59,.ab n 1 (qN q.ng X)),(60,.int .i64 (Int.ofNat n)),(61,.int .i64 i)],nt:=177,H:=hS q 17 [(15,.rows k 10 (λj=>aF (F j)) .ro),(16,.rows (N i) 9 (aX q.ng K S) (.ty 44))],df:=[]}
noncomputable def Vn(q:Query)(n:Nat)(K:Nat->Nat->Int)(S:Nat->Nat->List UInt8):GE:=.one (.x 2 {t:=Tr.ofList [(9,.own 16 n 9)],nt:=177,H:=hS q 17 [(16,.rows n 9 (aX q.ng K S) (.ty 44))],df:=[]})
theorem Ol(q:Query)(k:Nat)(F:Nat->ay)(n:Nat)(X:Nat->bj)(K:Nat->Nat->Int)(S:Nat->Nat->List UInt8)(N:Int->Nat)(b C:Nat->List UInt8)(m:Int->Nat)(c:Int->Int)(r:Nat)(zE:Int)(i:Int)(Q:Prop):(kr [tc] [(15007,17,Rl q k F n X (N i) K S i (X i.toNat) b C m c 0,Rm q k F n X (N i) K S i (X i.toNat) b C r zE)] 23 11001 16 (Vj q k F n X K S N) (λ_=>Vn q n K S) (λi=>i+1) Q i)=(ah (decide (i<Int.ofNat n)) (B (decide (0<=i)&&decide (i<Int.ofNat n)) (aE PP II false (aD II 23 15007) 17 (Rl q k F n X (N i) K S i (X i.toNat) b C m c 0) (Rm q k F n X (N i) K S i (X i.toNat) b C r zE)/\ax (m 0) 0 (ax (m 0) 0 (ax (m 0) 0 (zyN (N i) (zyR (N i) (aX q.ng K S) (zyN k ((an k (λj=>aF (F j)) λj=>aF (F j))/\zyN q.nw (zyR q.nw (au q.C) (zyN q.ng (zyR q.ng (aR q.G) (zyI q.a (zyI q.fl (zyB q.nu (zyB q.de (zyI q.top (zyB [49] (zyB [49] (zyB [48] (zyB [49] (zyB [48] (zyB [49] (zyR 5 aA (aH 0 (c 0) (zyN q.ng (zyR q.ng (ae (bj.W (X i.toNat))) (zyN (bj.m (X i.toNat)) (zyR (bj.m (X i.toNat)) (az (bj.L (X i.toNat)) (bj.G (X i.toNat)) (bj.C (X i.toNat))) (zyN (bj.m (X i.toNat)) (zyR (bj.m (X i.toNat)) (ae (bj.T (X i.toNat))) (zyN n (zyR n (qN q.ng X) (zyN k (zyR k (eD F) (zyN (N i) (ax (m 0) 0 (zyI i (ax (m 0) 0 (zyI (Int.ofNat n) (zyN k (ax (m 0) 0 (B ((List.all (List.range r) λi=>bt.free (lh b i))&&decide (r<=r)) (B ((List.all (List.range r) λi=>bt.free (eu i))&&decide (r<=r)) (B (Nat.beq r r&&Nat.ble r 400&&mY r (lh b)&&tp r eu) (B ((List.all (List.range r) λi=>bt.free (lh C i))&&decide (r<=r)) (B ((List.all (List.range r) λi=>bt.free (eu i))&&decide (r<=r)) (B (Nat.beq r r&&Nat.ble r 400&&mY r (lh C)&&tp r eu) (B (decide (N i<=N i)&&true&&true&&decide ((N i+1)*152<=140737488355328)&&true) (B (aN .i64 (i+1)) (ax (N i+1) (N (i+1)) (an (N i+1) (λd=>bif Nat.blt d (N i)then aX q.ng K S d else List.take 9 (List.drop (0+(d-N i)*9) [AV.ab q.ng 1 (ae (bj.W (X i.toNat))),AV.str (bu (pM (ru (pS (lh b))) r)),AV.str [49],AV.str (bu (pM (ru (pS (lh C))) r)),AV.str [49],AV.str [48],AV.str [49],AV.str [48],AV.str [49]])) (aX q.ng K S)/\zyN k ((an k (λj=>aF (F j)) λj=>aF (F j))/\zyN q.nw (zyR q.nw (au q.C) (zyN q.ng (zyR q.ng (aR q.G) (zyI q.a (zyI q.fl (zyB q.nu (zyB q.de (zyI q.top (zyB [49] (zyB [49] (zyB [48] (zyB [49] (zyB [48] (zyB [49] (zyR 5 aA (zyN n (zyR n (qN q.ng X) (zyN k (zyR k (eD F) (ax (N i+1) (N (i+1)) (zyI (i+1) (zyI (Int.ofNat n) (zyN k Q))))))))))))))))))))))))))))))))))))))))))))))))))))))))))))))))))))))))))) (ax (N i) n (zyR (N i) (aX q.ng K S) (zyN q.nw (zyR q.nw (au q.C) (zyN q.ng (zyR q.ng (aR q.G) (zyI q.a (zyI q.fl (zyB q.nu (zyB q.de (zyI q.top (zyB [49] (zyB [49] (zyB [48] (zyB [49] (zyB [48] (zyB [49] (zyR 5 aA (ax (N i) n True)))))))))))))))))))):=U
theorem VY(q:Query)(k:Nat)(F:Nat->ay)(n:Nat)(X:Nat->bj)(m:Int->Nat)(K:Nat->Nat->Int)(S:Nat->Nat->List UInt8)(N:Int->Nat)(Q:AV->Prop):(Xm [u5 (gW q),Wk,J7 (gW q) n X] [(5001,15,VW (gW q) k F m 0,VX (gW q) k F),(11001,16,Vj (gW q) k F n X K S N 0,Vn (gW q) n K S)] 23 [.agg (aY (gW q)),.ab k 12 (eD F)] Q)=(B (qT (gW q) [AV.ab q.nw 3 (au q.C),AV.ab q.ng 1 (aR q.G),AV.int .i64 1,AV.int .i64 q.fl,AV.str q.nu,AV.str q.de,AV.int .i64 0]&&ct (gW q)) (B (JR k (eD F)&&cX k (qP (eD F))) (aE PP II false (aD II 23 5001) 15 (VW (gW q) k F m 0) (VX (gW q) k F)/\ax (m 0) 0 (zyN q.nw (zyR q.nw (au q.C) (zyN q.ng (zyR q.ng (aR q.G) (zyI q.fl (zyB q.nu (zyB q.de (zyB [49] (zyB [49] (zyB [48] (zyB [49] (zyB [48] (zyB [49] (zyR 5 aA (zyN k (zyR k (eD F) (zyN k (zyR k (eD F) (ax (m 0) 0 (zyI (Int.ofNat k) (B ((List.all (List.range k) λi=>bt.free (aF (F i)))&&decide (k<=k)) (B ((qT (gW q) [AV.ab q.nw 3 (au q.C),AV.ab q.ng 1 (aR q.G),AV.int .i64 1,AV.int .i64 q.fl,AV.str q.nu,AV.str q.de,AV.int .i64 0]&&ct (gW q)&&Nat.ble k 1000000&&ie k λj=>aF (F j))&&J6 (gW q) n X k λj=>aF (F j)) (aE PP II false (aD II 23 11001) 16 (Vj (gW q) k F n X K S N 0) (Vn (gW q) n K S)/\ax (N 0) 0 (zyN k ((an k (λj=>aF (F j)) λj=>aF (F j))/\zyN q.nw (zyR q.nw (au q.C) (zyN q.ng (zyR q.ng (aR q.G) (zyI q.fl (zyB q.nu (zyB q.de (zyB [49] (zyB [49] (zyB [48] (zyB [49] (zyB [48] (zyB [49] (zyR 5 aA (zyN n (zyR n (qN q.ng X) (zyN k (zyR k (eD F) (ax (N 0) 0 (zyI (Int.ofNat n) (zyN k (B ((List.all (List.range n) λi=>bt.free (aX q.ng K S i))&&decide (n<=n)) (B (FY (ai.cells [AV.ab 5 2 aA] Access.ro) (ai.cells [AV.str [48],AV.str [49]] Access.ro) (ai.cells [AV.int .i64 7,AV.int .i64 9,AV.int .i64 11,AV.int .i64 99] Access.ro) (ai.cells [AV.map (some 13)] Access.ro) (ai.cells [AV.int .u64 1,AV.int .u64 10,AV.int .u64 100,AV.int .u64 1000,AV.int .u64 10000,AV.int .u64 100000,AV.int .u64 1000000,AV.int .u64 10000000,AV.int .u64 100000000,AV.int .u64 1000000000,AV.int .u64 10000000000,AV.int .u64 100000000000,AV.int .u64 1000000000000,AV.int .u64 10000000000000,AV.int .u64 100000000000000,AV.int .u64 1000000000000000,AV.int .u64 10000000000000000,AV.int .u64 100000000000000000,AV.int .u64 1000000000000000000,AV.int .u64 10000000000000000000] (Access.ex 20)) (ai.cells [AV.str [48],AV.str [49]] Access.ro) (ai.cells [AV.str [49],AV.str [49]] Access.ro) (ai.map lS)) (Q (AV.bK [AV.ab n 9 (aX q.ng K S),AV.int .i64 0])))))))))))))))))))))))))))))))))))))))))))))))))))):=U
end Go.Sx
end
section
set_option maxRecDepth 1000000
namespace Go.Sx
open Go
def r8(q:Query)(k:Nat)(F:Nat->ay):Nat:=ju q (aV q F k).length (yc q (og q (aV q F k)))
def FM(q:Query)(k:Nat)(F:Nat->ay)(j:Nat):Nat->Int:=dK (og q (aV q F k)) (cS q (aV q F k).length (yc q (og q (aV q F k))) j)
def oU(q:Query)(k:Nat)(F:Nat->ay)(j:Nat):Nat->List UInt8:=jC q (og q (aV q F k)) (cS q (aV q F k).length (yc q (og q (aV q F k))) j)
def Q5(q:Query)(k:Nat)(F:Nat->ay):AV:=.bK [.ab (r8 q k F) 9 (aX q.ng (FM q k F) (oU q k F)),.int .i64 0]
theorem Q6(q:Query)(k:Nat)(F:Nat->ay):N9 q (aV q F k).length (og q (aV q F k))=Q5 q k F:=rfl
theorem A8{q:Query}{k:Nat}{F:Nat->ay}(a:ct q=true)(b:cX k F=true):af PP II 13 [.agg (aY q),cm k F] HR (.ret (Q5 q k F) HR):=by
 rw[<-Q6]
 exact UA a b
end Go.Sx
end
