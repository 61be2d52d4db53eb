/- Lemmas, part 42. -/
import Derived.Test.YtoijalagmmgkbaaGreatDoorX41
set_option linter.all false
set_option linter.defProp false
section
set_option maxRecDepth 1000000
namespace Go.Sx
open Go
def JW(F:Nat->ay)(k c n m:Nat):Nat:=aP (aag F c) (CP k F n m)
theorem TB(n:Nat)(F:Nat->ay)(D:Nat->List UInt8):an n (gW F D) (gW F D):=λj _ σ=>Rg σ F D j
theorem aa3{c n:Nat}(h:n<=64):decide (Int.tmod (Int.fdiv (c:Int) (Int.pow 2 (min n 64))) 2=1)=Gr c n:=by
 show decide (Int.tmod (Int.fdiv (c:Int) ((2:Int)^min n 64)) 2=1)=_
 rw[Nat.min_eq_left h,show(2:Int)^n=((2^n:Nat):Int)from(Int.natCast_pow 2 n).symm,<-Int.ofNat_fdiv,show(2:Int)=((2:Nat):Int)from rfl,<-Int.ofNat_tmod]
 unfold Gr
 cases e:Nat.beq (c/2^n%2) 1 with
 |true=>have:=dE e;rw[this];rfl
 |false=>exact nZ λc=>by have:=Nat.ne_of_beq_eq_false e;omega
section
variable {q:Query} {k:Nat} {F:Nat->ay} {D:Nat->List UInt8} {d:Nat->Nat} {Z:Nat->Int} {RN:Nat} {RA:Nat->Nat->Int} {RB:Nat->Nat->List UInt8}
theorem abO(K:∀l,l<mY F k->Z l=FV k F l)(hA:TG F k)(hk:k<=400)(L:parts d (mY F k))(N:∀j,j<k->D j=bu (d (V1 F j)))(i:Int)(b:Nat->List UInt8)(E:Int){c n:Nat}(hn:n<mY F k):
  eu PP II false (aD II 5 34004) 43 (ZA q k F D (mY F k) Z RN RA RB i b E (λj=>F (Bi F k c j)) (λj=>D (Bi F k c j)) (n:Int) (Gr c n) (λm=>JW F k c n m.toNat) (λm=>Rm d c (RF k F n m.toNat)) (λm=>Rn d c (RF k F n m.toNat)) 0)
   (ZE q k F D (mY F k) Z RN RA RB i b E (λj=>F (Bi F k c j)) (λj=>D (Bi F k c j)) (n:Int) (JW F k c n k) (Rm d c (RF k F n k)) (Rn d c (RF k F n k))):=by
 refine eu.wL [W4,VK,TL] (n:=k) A λa ha Q hQ=>?_
 have ek:Int.ofNat k=(k:Int):=rfl
 have ep:Int.ofNat (mY F k)=(mY F k:Int):=rfl
 rw[abD,show Int.toNat (a:Int)=a from rfl,show Int.toNat ((a:Int)+1)=a+1 by omega,show Int.toNat (n:Int)=n from rfl]
 have P:=K n hn
 rw[P]
 refine Zg (λh=>?_) λh=>?_
 ·have r:a<k:=by omega
  have hq:=hQ r
  have u:(decide (0<=(a:Int))&&decide ((a:Int)<Int.ofNat k))=true:=by simp only[bf,bn];omega
  have v:(decide (0<=(n:Int))&&decide ((n:Int)<Int.ofNat (mY F k)))=true:=by simp only[bf,bn];omega
  have w:decide (n<mY F k)=true:=bW hn
  have bi:aN .i64 ((a:Int)+1)=true:=aq O O
  refine cC _ _ u (cC _ _ v (cC _ _ w (Zl (λx=>?_) λx=>?_)))
  ·obtain⟨R,G⟩:=abJ hn r λc=>x ((VT hA r hn).2 c)
   have cE:JW F k c n a=JW F k c n (a+1):=by unfold JW;rw[R]
   have aE:Rm d c (RF k F n a)=Rm d c (RF k F n (a+1)):=by rw[G]
   have bE:Rn d c (RF k F n a)=Rn d c (RF k F n (a+1)):=by rw[G]
   have sn:=trivial
   refine cC _ _ bi ?_
   exact ZR
  ·have tx:=(VT hA r hn).1 x
   obtain⟨S,T,B,U,V,w6⟩:=abK r tx
   obtain⟨W,X⟩:=acN L hn c
   have kb:aag F c a=Gr c n:=by unfold aag;rw[tx]
   have c0:JW F k c n a=aP (aag F c) a:=by unfold JW;rw[T]
   have H:JW F k c n (a+1)=aP (aag F c) (a+1):=by unfold JW;rw[S]
   have cl:aP (aag F c) a<=a:=jV _ _
   have I:D a=bu (d n):=by rw[N a r,tx]
   have J:=abL r tx
   have f:0<a->(F (a-1)).t=FV k F n->Rm d c (RF k F n a)=Rm d c (RF k F n (a+1))/\Rn d c (RF k F n a)=Rn d c (RF k F n (a+1)):=λo p=>by
    rw[B,U (J.2 ⟨o,(VT hA O hn).1 p⟩)];exact⟨rfl,rfl⟩
   have first:(0<a->¬ (F (a-1)).t=FV k F n)->RF k F n a=n:=λo=>by
    by_cases e:a=TM k F n
    ·exact V e
    ·obtain⟨e1,Y⟩:=J.1 e
     exact absurd ((VT hA O hn).2 Y) (o e1)
   have am:Int.toNat ((a:Int)-1)=a-1:=O
   rw[am,I]
   try rw[Wv]
   refine Zh (λg=>?_) λg=>?_
   ·have cE:JW F k c n a+1=JW F k c n (a+1):=by rw[c0,H,iE (kb.trans g)]
    have sn:=pn (e:=12) (gW (λj=>F (Bi F k c j)) λj=>D (Bi F k c j)) (JW F k c n a) (λj σ=>Rg σ _ _ j) A
    have e':gW (λj=>F (Bi F k c j)) (λj=>D (Bi F k c j)) (JW F k c n a)=aaQ (F a) (bu (d n)):=by
     have:Bi F k c (JW F k c n a)=a:=by rw[c0];exact wS r (kb.trans g)
     show aaQ (F (Bi F k c (JW F k c n a))) (D (Bi F k c (JW F k c n a)))=_
     rw[this,I]
    rw[e']at sn
    have bs:(decide (JW F k c n a<=JW F k c n a)&&true&&true&&decide ((JW F k c n a+1)*112<=140737488355328)&&true)=true:=by rw[bW (dw _),bW (O:(JW F k c n a+1)*112<=140737488355328)];rfl
    have y:=W g
    rw[<-B]at y
    refine cC _ _ u (cC _ _ bs (Zg (λo=>?_) λo=>?_))
    ·refine cC _ _ (aq O O) (cC _ _ (by simp only[bf,bn];omega) (cC _ _ v (cC _ _ w (Zg (λp=>?_) λp=>?_))))
     ·obtain⟨aE,bE⟩:=f O p
      refine cC _ _ bi ?_
      exact ZR
     ·have e:=first λ_=>p
      rw[e]
      obtain⟨s,aE,bE⟩:=y
      refine cC _ _ u (Zh (λc=>absurd (c.symm.trans (congrArg not g)) zC) λ_=>cC _ _ s (cC _ _ bi ?_))
      exact ZR
    ·have e:=first λc=>absurd (O:(a:Int)>0) o
     rw[e]
     obtain⟨s,aE,bE⟩:=y
     refine cC _ _ u (Zh (λc=>absurd (c.symm.trans (congrArg not g)) zC) λ_=>cC _ _ s (cC _ _ bi ?_))
     exact ZR
   ·have cE:JW F k c n a=JW F k c n (a+1):=by rw[c0,H,kO (kb.trans g)]
    have sn:=trivial
    have y:=X g
    rw[<-B]at y
    refine Zg (λo=>?_) λo=>?_
    ·refine cC _ _ (aq O O) (cC _ _ (by simp only[bf,bn];omega) (cC _ _ v (cC _ _ w (Zg (λp=>?_) λp=>?_))))
     ·obtain⟨aE,bE⟩:=f O p
      refine cC _ _ bi ?_
      exact ZR
     ·have e:=first λ_=>p
      rw[e]
      obtain⟨C,s,aE,bE⟩:=y
      refine cC _ _ u (Zh (λ_=>cC _ _ zA (cC _ _ C (cC _ _ s (cC _ _ bi ?_)))) λc=>absurd (c.symm.trans (congrArg not g)) zC)
      exact ZR
    ·have e:=first λc=>absurd (O:(a:Int)>0) o
     rw[e]
     obtain⟨C,s,aE,bE⟩:=y
     refine cC _ _ u (Zh (λ_=>cC _ _ zA (cC _ _ C (cC _ _ s (cC _ _ bi ?_)))) λc=>absurd (c.symm.trans (congrArg not g)) zC)
     exact ZR
 ·have e:a=k:=by omega
  subst e
  have sn:=trivial
  have cE:JW F a c n a=JW F a c n a:=rfl
  have aE:Rm d c (RF a F n a)=Rm d c (RF a F n a):=rfl
  have bE:Rn d c (RF a F n a)=Rn d c (RF a F n a):=rfl
  exact ZR
theorem acR(o:∀l,l<mY F k->Z l=FV k F l)(hA:TG F k)(p:k<=400)(f:parts d (mY F k))(r:∀j,j<k->D j=bu (d (V1 F j)))(i:Int)(b:Nat->List UInt8)(c:Nat):
  eu PP II false (aD II 5 30004) 42 (Q1 q k F D (mY F k) Z RN RA RB i b (c:Int) (λj=>F (Bi F k c j)) (λj=>D (Bi F k c j)) (λn=>aP (aag F c) (TM k F n.toNat)) (λn=>Rm d c n.toNat) (λn=>Rn d c n.toNat) 0)
   (Tp q k F D (mY F k) Z RN RA RB i b (c:Int) (λj=>F (Bi F k c j)) (λj=>D (Bi F k c j)) (aP (aag F c) k) (Rm d c (mY F k)) (Rn d c (mY F k))):=by
 refine eu.CS (λ_=>[]) (λa=>[(34004,43,ZA q k F D (mY F k) Z RN RA RB i b (c:Int) (λj=>F (Bi F k c j)) (λj=>D (Bi F k c j)) (a:Int) (Gr c a) (λm=>JW F k c a m.toNat) (λm=>Rm d c (RF k F a m.toNat)) (λm=>Rn d c (RF k F a m.toNat)) 0,
   ZE q k F D (mY F k) Z RN RA RB i b (c:Int) (λj=>F (Bi F k c j)) (λj=>D (Bi F k c j)) (a:Int) (JW F k c a k) (Rm d c (RF k F a k)) (Rn d c (RF k F a k)))]) (n:=(mY F k)) A λa ha Q hQ=>?_
 have t:Int.ofNat (mY F k)=(mY F k:Int):=rfl
 have u:=f.1
 rw[acG,show Int.toNat (a:Int)=a from rfl,show Int.toNat ((a:Int)+1)=a+1 by omega]
 refine Zg (λh=>?_) λh=>?_
 ·have hn:a<mY F k:=by omega
  have hq:=hQ hn
  have bi:aN .i64 ((a:Int)+1)=true:=aq O O
  obtain⟨s,g⟩:=acK hn
  have kp:decide (Int.tmod (Int.fdiv (c:Int) (Int.pow 2 (min a 64))) 2=1)=Gr c a:=aa3 O
  have cE:aP (aag F c) (TM k F a)=JW F k c a (Int.toNat 0):=by unfold JW;rw[show Int.toNat 0=0 from rfl,aa0]
  have aE:Rm d c a=Rm d c (RF k F a (Int.toNat 0)):=by rw[show Int.toNat 0=0 from rfl,Z8]
  have bE:Rn d c a=Rn d c (RF k F a (Int.toNat 0)):=by rw[show Int.toNat 0=0 from rfl,Z8]
  have cF:JW F k c a k=aP (aag F c) (TM k F (a+1)):=by unfold JW;rw[s]
  have aF:Rm d c (RF k F a k)=Rm d c (a+1):=by rw[g]
  have bF:Rn d c (RF k F a k)=Rn d c (a+1):=by rw[g]
  refine cC _ _ (bW O) ⟨abO o hA p f r i b (c:Int) hn,?_⟩
  exact ZS
 ·have e:a=mY F k:=by omega
  have hq:=trivial
  have cE:aP (aag F c) (TM k F a)=aP (aag F c) k:=by rw[e,acJ]
  have aE:Rm d c a=Rm d c (mY F k):=by rw[e]
  have bE:Rn d c a=Rn d c (mY F k):=by rw[e]
  have cF:=cE
  have aF:=aE
  have bF:=bE
  have kp:=trivial
  have bi:aN .i64 0=true:=rfl
  exact ZS
end
end Go.Sx
end
section
set_option maxRecDepth 1000000
namespace Go.Sx
open Go
theorem abP(q:Query)(k:Nat)(F:Nat->ay)(D:Nat->List UInt8)(p:Nat)(Z:Nat->Int)(RN:Nat)(RA:Nat->Nat->Int)(RB:Nat->Nat->List UInt8)(i:Int)(b:Int->Nat->List UInt8)(e:Nat->List UInt8)(f:Nat->ay)(g:Nat->List UInt8)(r:Int->Nat)(d B:Int->List UInt8)(cE:Nat)(aE bE:List UInt8)(n:Nat)(s:Nat->Nat->Int)(SB:Nat->Nat->List UInt8)(T:Nat->List UInt8)(c:Int)(Q:Prop):(kr [W4,abE q n s SB,aas T,TL,abc] [(30004,42,Q1 q k F D p Z RN RA RB i (b c) c f g r d B 0,Tp q k F D p Z RN RA RB i (b c) c f g cE aE bE)] 5 25005 40 (Ou q k F D p Z RN RA RB i b) (λ_=>Pz q k F D p Z RN RA RB i e) (λc=>c+1) Q c)=(let o:=(eT.cells [AV.str [48],AV.str [49]] Access.ro);let h:=(zS aE bE (zS (T 0) (T 1) (T 0) (T 1)) (zT (T 0) (T 1) (T 0) (T 1)));let j:=(zT aE bE (zS (T 0) (T 1) (T 0) (T 1)) (zT (T 0) (T 1) (T 0) (T 1)));let l:=(zS aE bE (zS (T 2) (T 3) (T 2) (T 3)) (zT (T 2) (T 3) (T 2) (T 3)));let m:=(zT aE bE (zS (T 2) (T 3) (T 2) (T 3)) (zT (T 2) (T 3) (T 2) (T 3)));(aa (decide (0<=Int.ofNat p)&&aN .i64 (1*Int.pow 2 (min (Int.toNat (Int.ofNat p)) 64))) (ah (decide (c<1*Int.pow 2 (min (Int.toNat (Int.ofNat p)) 64))) (eu PP II false (aD II 5 30004) 42 (Q1 q k F D p Z RN RA RB i (b c) c f g r d B 0) (Tp q k F D p Z RN RA RB i (b c) c f g cE aE bE)/\ax (r 0) 0 (bI [49] (d 0) (bI [49] (B 0) (zyB (b c 0) (zyB (b c 1) (zyB (b c 2) (zyB (b c 3) (zyB (b c 4) (zyB (b c 5) (zyB (b c 6) (zyB (b c 7) (zyB (b c 8) (zyB (b c 9) (zyB (b c 10) (zyB (b c 11) (zyN p (zyR p (ae Z) (zyN q.nw (zyR q.nw (au q.C) (zyN q.ng (zyR q.ng (aR q.G) (zyI q.a (zyI q.fl (zyB q.nu (zyB q.de (zyI q.top (zyB [49] (zyB [49] (zyB [48] (zyB [49] (zyB [48] (zyB [49] (zyR 5 aA (zyI i (true=true/\zyN RN (zyR RN (aX q.ng RA RB) (ax (r 0) 0 (zyN k (zyR k (gW F D) (zyI c (zyN p (false=false/\aa ((List.all (List.range cE) λi=>bt.free (gW f g i))&&decide (cE<=cE)) (aa (FY (eT.cells [AV.ab 5 2 aA] Access.ro) o (eT.cells [AV.int .i64 7,AV.int .i64 9,AV.int .i64 11,AV.int .i64 99] Access.ro) (eT.cells [AV.map (some 13)] Access.ro) (eT.cells [AV.int .u64 1,AV.int .u64 10,AV.int .u64 100,AV.int .u64 1000,AV.int .u64 10000,AV.int .u64 100000,AV.int .u64 1000000,AV.int .u64 10000000,AV.int .u64 100000000,AV.int .u64 1000000000,AV.int .u64 10000000000,AV.int .u64 100000000000,AV.int .u64 1000000000000,AV.int .u64 10000000000000,AV.int .u64 100000000000000,AV.int .u64 1000000000000000,AV.int .u64 10000000000000000,AV.int .u64 100000000000000000,AV.int .u64 1000000000000000000,AV.int .u64 10000000000000000000] (Access.ex 20)) o (eT.cells [AV.str [49],AV.str [49]] Access.ro) (eT.map OZ)) (aa (UL q [AV.ab q.nw 3 (au q.C),AV.ab q.ng 1 (aR q.G),AV.int .i64 q.a,AV.int .i64 q.fl,AV.str q.nu,AV.str q.de,AV.int .i64 q.top] cE (gW f g)&&XO q n s SB cE (gW f g)) (aa (decide (0<=i)&&decide (i<Int.ofNat RN)) (aa (Z3 q.ng n (xu q.ng s SB)&&bA q.ng (ae (RA i.toNat))&&Nat.ble n 1000000&&Nat.ble q.ng 1000000&&Wb n q.ng (xu q.ng s SB) (aM (ae (RA i.toNat))) T) (aa (Ed (T 0) (T 1) (T 0) (T 1)) (aa (Ed (T 2) (T 3) (T 2) (T 3)) (aa (Ed aE bE (T 0) (T 1)) (aa (S8 (b c 0) (b c 1) (zS aE bE (T 0) (T 1)) (zT aE bE (T 0) (T 1))) (aa (aN .i64 1) (aa (Ed aE bE (T 2) (T 3)) (aa (S8 (b c 2) (b c 3) (zS aE bE (T 2) (T 3)) (zT aE bE (T 2) (T 3))) (aa (aN .i64 2) (aa (Ed aE bE (zS (T 0) (T 1) (T 0) (T 1)) (zT (T 0) (T 1) (T 0) (T 1))) (aa (S8 (b c 4) (b c 5) h j) (aa (aN .i64 3) (aa (Ed aE bE (zS (T 2) (T 3) (T 2) (T 3)) (zT (T 2) (T 3) (T 2) (T 3))) (aa (S8 (b c 6) (b c 7) l m) (aa (aN .i64 4) (aa (Ed aE bE (T 4) (T 5)) (aa (S8 (b c 8) (b c 9) (zS aE bE (T 4) (T 5)) (zT aE bE (T 4) (T 5))) (aa (aN .i64 5) (aa (Ed aE bE (T 6) (T 7)) (aa (S8 (b c 10) (b c 11) (zS aE bE (T 6) (T 7)) (zT aE bE (T 6) (T 7))) (aa (aN .i64 6) (aa (aN .i64 (c+1)) (bI (Wg (b c 0) (b c 1) (zS aE bE (T 0) (T 1)) (zT aE bE (T 0) (T 1))) (b (c+1) 0) (bI (Wh (b c 0) (b c 1) (zS aE bE (T 0) (T 1)) (zT aE bE (T 0) (T 1))) (b (c+1) 1) (bI (Wg (b c 2) (b c 3) (zS aE bE (T 2) (T 3)) (zT aE bE (T 2) (T 3))) (b (c+1) 2) (bI (Wh (b c 2) (b c 3) (zS aE bE (T 2) (T 3)) (zT aE bE (T 2) (T 3))) (b (c+1) 3) (bI (Wg (b c 4) (b c 5) h j) (b (c+1) 4) (bI (Wh (b c 4) (b c 5) h j) (b (c+1) 5) (bI (Wg (b c 6) (b c 7) l m) (b (c+1) 6) (bI (Wh (b c 6) (b c 7) l m) (b (c+1) 7) (bI (Wg (b c 8) (b c 9) (zS aE bE (T 4) (T 5)) (zT aE bE (T 4) (T 5))) (b (c+1) 8) (bI (Wh (b c 8) (b c 9) (zS aE bE (T 4) (T 5)) (zT aE bE (T 4) (T 5))) (b (c+1) 9) (bI (Wg (b c 10) (b c 11) (zS aE bE (T 6) (T 7)) (zT aE bE (T 6) (T 7))) (b (c+1) 10) (bI (Wh (b c 10) (b c 11) (zS aE bE (T 6) (T 7)) (zT aE bE (T 6) (T 7))) (b (c+1) 11) (zyN p (zyR p (ae Z) (zyN q.nw (zyR q.nw (au q.C) (zyN q.ng (zyR q.ng (aR q.G) (zyI q.a (zyI q.fl (zyB q.nu (zyB q.de (zyI q.top (zyB [49] (zyB [49] (zyB [48] (zyB [49] (zyB [48] (zyB [49] (zyR 5 aA (zyI i (true=true/\zyN RN (zyR RN (aX q.ng RA RB) (zyN k (zyR k (gW F D) (zyI (c+1) (zyN p (false=false/\Q))))))))))))))))))))))))))))))))))))))))))))))))))))))))))))))))))))))))))))))))))))))))))))))))))))))))) (bI (b c 0) (e 0) (bI (b c 1) (e 1) (bI (b c 2) (e 2) (bI (b c 3) (e 3) (bI (b c 4) (e 4) (bI (b c 5) (e 5) (bI (b c 6) (e 6) (bI (b c 7) (e 7) (bI (b c 8) (e 8) (bI (b c 9) (e 9) (bI (b c 10) (e 10) (bI (b c 11) (e 11) (zyN p (zyR p (ae Z) (zyN q.nw (zyR q.nw (au q.C) (zyN q.ng (zyR q.ng (aR q.G) (zyI q.a (zyI q.fl (zyB q.nu (zyB q.de (zyI q.top (zyB [49] (zyB [49] (zyB [48] (zyB [49] (zyB [48] (zyB [49] (zyR 5 aA (zyI i (true=true/\zyN RN (zyR RN (aX q.ng RA RB) (zyN k (zyR k (gW F D) (zyN p (false=false/\True)))))))))))))))))))))))))))))))))))))))):=U
end Go.Sx
end
section
set_option maxRecDepth 100000
namespace Go.Sx
open Go Go.Sort Go.Shelf Go.Proofs
def We(q:Query)(x:ay):Nat:=bif Br q x then(kR q x).toNat else 0
def Wf(q:Query)(x:ay):Nat:=(lJ q x).toNat
def DB(q:Query)(F:Nat->ay)(k:Nat)(W:Nat->Int)(φ:ay->Nat)(t:Int):Nat:=pM (λf=>bif (gk q (F f)&&WA q W (F f))&&decide ((F f).t=t)then φ (F f)else 0) k
theorem YQ(f g):∀n,pM (λi=>f i+g i) n=pM f n+pM g n
 |0=>rfl
 |n+1=>by show pM _ n+(f n+g n)=pM f n+f n+(pM g n+g n);rw[YQ f g n];omega
theorem YR{p}{I t:Nat->Int}(inj:∀a b,a<p->b<p->I a=I b->a=b)(P:Nat->Bool)(φ:Nat->Nat):∀{k},(∀f,f<k->∃l,l<p/\t f=I l)->pM (λf=>bif P f then φ f else 0) k=pM (λl=>pM (λf=>bif P f&&decide (t f=I l)then φ f else 0) k) p
 |0,_=>(KB λ_ _=>rfl).symm
 |k+1,h=>by
  obtain⟨a,a1,a2⟩:=h k O
  show pM _ k+(bif P k then φ k else 0)=pM (λl=>pM _ k+(bif P k&&decide (t k=I l)then φ k else 0)) p
  rw[YQ,YR inj P φ (k:=k) λf c=>h f O]
  congr 1
  refine((XP (a:=a) (g:=λ_=>0) a1 (λl hl hn=>?_) A).trans ?_).symm
  grind
  ·rw[KB λ_ _=>rfl,Nat.zero_add,bW a2,Bool.and_true]
theorem V5{α:Type}(f:α->Int):∀{l:List α},(∀x,x∈l->0<=f x)->(l.map f).sum.toNat=(l.map λx=>(f x).toNat).sum/\0<=(l.map f).sum
 |[],_=>Y
 |a::l,h=>by
  obtain⟨b,c⟩:=V5 f (l:=l) ZD
  grind
theorem VG(l):(List.range l.length).map (λi=>l.getD i 0)=l:=by
 refine List.ext_getElem? λi=>?_
 grind
theorem Zt{q k W}(C)(h:∀i,i<k->0<=W i)(b:q.a=1->∀i,i<k->W i=1):Ea q k W C=pM (λi=>bif C i then(W i).toNat else 0) k:=by
 have e:((((List.range k).filter C).map W).sum).toNat=pM (λi=>bif C i then(W i).toNat else 0) k:=by
  rw[(V5 W ZD).1,<-UN (T:=λi=>((List.range k).filter C).getD i 0) (m:=((List.range k).filter C).length) (φ:=λi=>(W i).toNat),UM,show(List.range ((List.range k).filter C).length).map (λi=>(W (((List.range k).filter C).getD i 0)).toNat)=((List.range ((List.range k).filter C).length).map λi=>((List.range k).filter C).getD i 0).map λi=>(W i).toNat by simp,VG]
  exact VG _
 unfold Ea
 by_cases a1:q.a=1
 ·rw[if_pos a1,<-e,show((List.range k).filter C).map W=((List.range k).filter C).map λ_=>(1:Int)from List.map_congr_left λx hx=>b a1 x Y]
  unfold aP
  generalize (List.range k).filter C=l
  induction l with
  |nil=>rfl
  |cons a l c=>rw[List.length_cons,c,List.map_cons,List.sum_cons];have:=(V5 (λ_:Nat=>(1:Int)) (l:=l) λ_ _=>O).2;omega
 ·rw[if_neg a1,e]
theorem aaH{q k W}(h:∀i,i<k->0<=W i)(b:q.a=1->∀i,i<k->W i=1):AY q k W=pM (λi=>(W i).toNat) k:=by
 have:=Zt (q:=q) (λ_=>true) h b
 unfold Ea at this
 unfold AY
 rw[show(List.range k).filter (λ_=>true)=List.range k from List.filter_eq_self.2 λ_ _=>rfl,show aP (λ_=>true) k=k from XD k]at this
 exact this
theorem U5{q x}(hq:Hl q=true)(a:bB x=true)(b:gk q x=true):0<=kR q x/\0<=lJ q x:=⟨(xi hq a b).1,(FL hq a b).1⟩
theorem U6{q x}(ha:q.a=1)(b:gk q x=true):kR q x=1/\lJ q x=1:=by
 unfold kR lJ
 grind
section
variable {q:Query} {k:Nat} {F:Nat->ay} {Y1:bj}
theorem TA(hq:Hl q=true)(g:∀j,j<k->bB (F j)=true)(h:oc q F k Y1){j}(l:jy (Hp F Y1) Y1.m (j+1)<=Y1.m):
  Ot q F Y1 j=pM (λi=>We q (F (Y1.T (jy (Hp F Y1) Y1.m j+i)).toNat)) (jy (Hp F Y1) Y1.m (j+1)-jy (Hp F Y1) Y1.m j)/\Ov q F Y1 j=pM (λi=>Wf q (F (Y1.T (jy (Hp F Y1) Y1.m j+i)).toNat)) (jy (Hp F Y1) Y1.m (j+1)-jy (Hp F Y1) Y1.m j):=by
 unfold Ot Ov
 generalize jy (Hp F Y1) Y1.m (j+1)=e at*
 generalize jy (Hp F Y1) Y1.m j=s at*
 have a:∀i,i<e-s->∃f:Nat,f<k/\(Y1.T (s+i)).toNat=f/\gk q (F f)=true/\Y1.L (s+i)=kR q (F f)/\Y1.G (s+i)=lJ q (F f)/\Y1.C (s+i)=Br q (F f):=λi hi=>by
  obtain⟨f,f1,c,b⟩:=h (s+i) O
  grind
 rw[Zt _ (λi hi=>?_) (λa1 i hi=>?_),aaH (λi hi=>?_) (λa1 i hi=>?_)]
 ·refine⟨su λi hi=>?_,su λi hi=>?_⟩
  ·obtain⟨f,f1,c,b,d,f5,f6⟩:=a i hi
   rw[c,d,f6];rfl
  ·obtain⟨f,f1,c,b,d,f5,f6⟩:=a i hi
   rw[c,f5];rfl
 ·obtain⟨f,f1,c,b,d,f5,f6⟩:=a i hi
  rw[f5];exact(U5 hq (g f f1) b).2
 ·obtain⟨f,f1,c,b,d,f5,f6⟩:=a i hi
  rw[f5];exact(U6 a1 b).2
 ·obtain⟨f,f1,c,b,d,f5,f6⟩:=a i hi
  rw[d];exact(U5 hq (g f f1) b).1
 ·obtain⟨f,f1,c,b,d,f5,f6⟩:=a i hi
  rw[d];exact(U6 a1 b).1
end
def Jo(dT:Int->Nat)(t:Int)(v:Nat):Nat:=v*dT t
def Es(dT:Int->Nat)(t:Int)(v:Nat):Nat:=v*v*(dT t-1)*dT t
def Wk(q:Query)(F:Nat->ay)(k:Nat)(W:Nat->Int)(dT:Int->Nat)(I:Nat->Int)(p c:Nat):Nat:=match c with
 |0=>pM (λl=>Jo dT (I l) (DB q F k W (We q) (I l))) p
 |1=>pM (λl=>Jo dT (I l) (DB q F k W (Wf q) (I l))) p
 |2=>pM (λl=>Es dT (I l) (DB q F k W (We q) (I l))) p
 |_=>pM (λl=>Es dT (I l) (DB q F k W (Wf q) (I l))) p
theorem abQ{q F k j}(hq:ct q=true)(a:j<(aV q F k).length)(φ)(t):pM (λi=>bif decide (Hp F (aK (aV q F k) j) i=t)then φ (F ((aK (aV q F k) j).T i).toNat)else 0) (aK (aV q F k) j).m=DB q F k (aK (aV q F k) j).W φ t:=by
 have fl:=(Dl q F k).list j a
 have b:=λx=>V4 (x:=x) (Xs hq) a
 simp only[b]at fl
 generalize aK (aV q F k) j=Y1 at*
 refine(UN fl λf=>bif decide ((F f).t=t)then φ (F f)else 0).trans (su λf _=>?_)
 grind
theorem abR{q:Query}{F:Nat->ay}{k j:Nat}(hq:ct q=true)(s:∀j,j<k->bB (F j)=true)(hA:TG F k)(e:j<(aV q F k).length){D:Nat->List UInt8}{dT:Int->Nat}(B:∀f,f<k->ao (D f)=dT (F f).t){I:Nat->Int}{p:Nat}(inj:∀a b,a<p->b<p->I a=I b->a=b)(hI:∀f,f<k->∃l,l<p/\(F f).t=I l)(c:Nat):
  Gq q F D (aK (aV q F k) j) c=Wk q F k (aK (aV q F k) j).W dT I p c:=by
 have u:=(FX hq).2.2
 have r:=yD q F k j e
 have hi:=YJ q F k j e
 have G:=λφ t=>abQ (φ:=φ) (t:=t) hq e
 generalize aK (aV q F k) j=Y1 at*
 obtain⟨r1,C,x⟩:=HA (Hp F Y1) Y1.m
 have n:∀i,i<Y1.m->(Y1.T i).toNat<k:=λi h=>by obtain⟨f,f1,H,_⟩:=r i h;omega
 have mono:∀i o,i<=o->o<Y1.m->Hp F Y1 i<=Hp F Y1 o:=λi o h y=>by
  have a:=n o y
  refine aat hA ?_ a
  rcases Nat.lt_or_eq_of_le h with d|d
  ·have:=hi.up i o d y
   omega
  grind
 have w:∀i,i<Y1.m->∃l,l<p/\Hp F Y1 i=I l:=λi h=>hI _ (n i h)
 have le:∀j,j<Ls (Hp F Y1) Y1.m->jy (Hp F Y1) Y1.m (j+1)<=Y1.m:=λj e=>Hr _ _ _
 have gen:∀(h:Int->Nat->Nat)(g:ay->Nat),(∀t,h t 0=0)->pM (λj=>h (Hp F Y1 (jy (Hp F Y1) Y1.m j)) (pM (λi=>g (F (Y1.T (jy (Hp F Y1) Y1.m j+i)).toNat)) (jy (Hp F Y1) Y1.m (j+1)-jy (Hp F Y1) Y1.m j))) (Ls (Hp F Y1) Y1.m)=pM (λl=>h (I l) (DB q F k Y1.W g (I l))) p:=λh g E=>by
  rw[Z5 mono inj w h E (λi=>g (F (Y1.T i).toNat)) x,C]
  grind
 have v:∀j,j<Ls (Hp F Y1) Y1.m->ao (SY F D Y1 j)=dT (Hp F Y1 (jy (Hp F Y1) Y1.m j)):=λj e=>B _ (n _ (x j e).1)
 unfold Gq Wk
 rcases c with _|_|_|c
 ·show _=pM _ _
  rw[<-gen (Jo dT) (We q) λt=>Nat.zero_mul _]
  refine su λj e=>?_
  show ao (bu (Ot q F Y1 j))*ao (SY F D Y1 j)=_
  rw[cq,v j e,(TA u s r (le j e)).1];rfl
 ·show _=pM _ _
  rw[<-gen (Jo dT) (Wf q) λt=>Nat.zero_mul _]
  refine su λj e=>?_
  show ao (bu (Ov q F Y1 j))*ao (SY F D Y1 j)=_
  rw[cq,v j e,(TA u s r (le j e)).2];rfl
 ·show _=pM _ _
  rw[<-gen (Es dT) (We q) λt=>by unfold Es;simp]
  refine su λj e=>?_
  show ao (bu (Ot q F Y1 j))*ao (bu (Ot q F Y1 j))*(ao (SY F D Y1 j)-1)*ao (SY F D Y1 j)=_
  rw[cq,v j e,(TA u s r (le j e)).1];rfl
 ·show _=pM _ _
  rw[<-gen (Es dT) (Wf q) λt=>by unfold Es;simp]
  refine su λj e=>?_
  show ao (bu (Ov q F Y1 j))*ao (bu (Ov q F Y1 j))*(ao (SY F D Y1 j)-1)*ao (SY F D Y1 j)=_
  rw[cq,v j e,(TA u s r (le j e)).2];rfl
theorem abS{q W V}(h:A9 q.ng W V=true)(F)(k)(φ)(t):DB q F k W φ t=DB q F k V φ t:=by
 unfold DB
 simp only[adq h]
theorem abT{q W V}(h:A9 q.ng W V=true)(F)(k)(dT)(I)(p c):Wk q F k W dT I p c=Wk q F k V dT I p c:=by
 unfold Wk
 simp only[abS h]
def Om(N:Nat->Nat)(c:Nat):List UInt8:=match c with
 |0=>bu (N 0)
 |1=>[49]
 |2=>bu (N 1)
 |3=>[49]
 |4=>bu (N 2)
 |5=>[49]
 |6=>bu (N 3)
 |_=>[49]
theorem abU{q:Query}{F:Nat->ay}{k:Nat}(r:q.top=0)(hq:ct q=true)(x:∀j,j<k->bB (F j)=true)(hA:TG F k){D:Nat->List UInt8}{dT:Int->Nat}(y:∀f,f<k->ao (D f)=dT (F f).t){I:Nat->Int}{p:Nat}(inj:∀a b,a<p->b<p->I a=I b->a=b)(hI:∀f,f<k->∃l,l<p/\(F f).t=I l)(W:Nat->Int)(c:Nat):
  Oj (r8 q k F) q.ng (FM q k F) (AS q k F D) W c=Om (Wk q F k W dT I p) c:=by
 have s:r8 q k F=(aV q F k).length:=by unfold r8 ju;rw[if_pos r]
 have u:∀j,FM q k F j=dK (og q (aV q F k)) j:=λj=>by unfold FM cS;rw[if_pos r]
 unfold Oj
 cases g:Ps (r8 q k F) q.ng (FM q k F) W with
 |some j=>
  unfold Ps at g
  have v:=List.mem_range.1 (List.mem_of_find?_eq_some g)
  have w:A9 q.ng (FM q k F j) W=true:=List.find?_some (p:=λj=>A9 q.ng (FM q k F j) W) g
  rw[s]at v
  rw[u]at w
  have pl:=u4 q.ng (aV q F k).length (fj q.ng (aV q F k)) v
  have B:=λc=>(abR (c:=c) hq x hA pl y inj hI).trans (abT w F k dT I p c)
  show Zu q F D (og q (aV q F k)) j c=_
  unfold Zu Om
  rcases c with _|_|_|_|_|_|_|c<;>first|rfl|exact congrArg bu (B _)
 |none=>
  have no:∀f,f<k->gk q (F f)=true->WA q W (F f)=false:=λf h C=>by
   obtain⟨l,l1,l2⟩:=(Dl q F k).all f h C
   have E:(lW q.ng (aV q F k).length (fj q.ng (aV q F k))).Perm (List.range (aV q F k).length):=List.mergeSort_perm _ _
   obtain⟨i,m,G⟩:=List.mem_iff_getElem.1 (E.mem_iff.2 (List.mem_range.2 l1))
   have H:i<r8 q k F:=by rw[s];rw[Dd]at m;exact m
   unfold Ps at g
   have n:=List.find?_eq_none.1 g i (List.mem_range.2 H)
   have J:og q (aV q F k) i=aK (aV q F k) l:=by
    unfold og
    rw[List.getD_eq_getElem?_getD,mo m,G];rfl
   have o:WA q (aK (aV q F k) l).W (F f)=true:=by
    rw[<-V4 (Xs hq) l1]
    exact Y
   cases hw:WA q W (F f)with
   |false=>rfl
   |true=>
    refine absurd ?_ n
    rw[u]
    show A9 q.ng (og q (aV q F k) i).W W=true
    rw[J]
    refine List.all_eq_true.2 λa ha=>bW ?_
    have x1:=pT (List.all_eq_true.1 o a ha)
    have x2:=pT (List.all_eq_true.1 hw a ha)
    omega
  have d:∀φ t,DB q F k W φ t=0:=λφ t=>KB λf g=>by
   grind
  have e:∀c,Wk q F k W dT I p c=0:=λc=>by
   unfold Wk
   simp only[d]
   split<;>exact KB λl _=>by simp[Jo,Es]
  have K:bu 0=[48]:=ly
  unfold Om
  grind
theorem aaa{q F k}(hA:TG F k)(W)(φ)(c){l}(hl:l<mY F k):
  DB q (λj=>F (Bi F k c j)) (aP (aag F c) k) W φ (FV k F l)=bif Gr c l then DB q F k W φ (FV k F l)else 0:=by
 have a:(List.range (aP (aag F c) k)).map (Bi F k c)=(List.range k).filter (aag F c):=VG _
 refine(UN a λf=>bif (gk q (F f)&&WA q W (F f))&&decide ((F f).t=FV k F l)then φ (F f)else 0).trans ?_
 have key:∀f,f<k->(bif aag F c f then(bif (gk q (F f)&&WA q W (F f))&&decide ((F f).t=FV k F l)then φ (F f)else 0)else 0)=bif Gr c l then(bif (gk q (F f)&&WA q W (F f))&&decide ((F f).t=FV k F l)then φ (F f)else 0)else 0:=λf b=>by
  by_cases h:(F f).t=FV k F l
  ·have:=(VT hA b hl).1 h
   rw[show aag F c f=Gr c l by unfold aag;rw[this]]
  grind
 rw[su key]
 cases Gr c l with
 |true=>rfl
 |false=>exact KB λ_ _=>rfl
theorem abV{q F k}(hA:TG F k)(W)(dT)(c):
  Wk q (λj=>F (Bi F k c j)) (aP (aag F c) k) W dT (FV k F) (mY F k) 0=Ol (λl=>DB q F k W (We q) (FV k F l)) (λl=>dT (FV k F l)) c (mY F k)/\
  Wk q (λj=>F (Bi F k c j)) (aP (aag F c) k) W dT (FV k F) (mY F k) 1=Ol (λl=>DB q F k W (Wf q) (FV k F l)) (λl=>dT (FV k F l)) c (mY F k)/\
  Wk q (λj=>F (Bi F k c j)) (aP (aag F c) k) W dT (FV k F) (mY F k) 2=Z4 (λl=>DB q F k W (We q) (FV k F l)) (λl=>dT (FV k F l)) c (mY F k)/\
  Wk q (λj=>F (Bi F k c j)) (aP (aag F c) k) W dT (FV k F) (mY F k) 3=Z4 (λl=>DB q F k W (Wf q) (FV k F l)) (λl=>dT (FV k F l)) c (mY F k):=by
 have a:∀φ,pM (λl=>Jo dT (FV k F l) (DB q (λj=>F (Bi F k c j)) (aP (aag F c) k) W φ (FV k F l))) (mY F k)=Ol (λl=>DB q F k W φ (FV k F l)) (λl=>dT (FV k F l)) c (mY F k):=λφ=>su λl hl=>by
  rw[aaa hA W φ c hl]
  cases Gr c l with
  |true=>rfl
  |false=>exact Nat.zero_mul _
 have b:∀φ,pM (λl=>Es dT (FV k F l) (DB q (λj=>F (Bi F k c j)) (aP (aag F c) k) W φ (FV k F l))) (mY F k)=Z4 (λl=>DB q F k W φ (FV k F l)) (λl=>dT (FV k F l)) c (mY F k):=λφ=>su λl hl=>by
  rw[aaa hA W φ c hl]
  cases Gr c l with
  |true=>rfl
  |false=>unfold Es;simp
 exact⟨a _,a _,b _,b _⟩
theorem acT{q:Query}{F:Nat->ay}{k i:Nat}(ha:q.a=1∨q.a=2)(n:q.top=0)(hq:ct q=true)(o:∀j,j<k->bB (F j)=true)(hA:TG F k)(hi:i<r8 q k F):
  oU q k F i 0=bu (pM (λl=>DB q F k (FM q k F i) (We q) (FV k F l)) (mY F k))/\oU q k F i 1=[49]/\oU q k F i 2=bu (pM (λl=>DB q F k (FM q k F i) (Wf q) (FV k F l)) (mY F k))/\oU q k F i 3=[49]:=by
 have r:=(FX hq).2.2
 have v:r8 q k F=(aV q F k).length:=by unfold r8 ju;rw[if_pos n]
 have w:∀j,FM q k F j=dK (og q (aV q F k)) j:=λj=>by unfold FM cS;rw[if_pos n]
 have y:∀j,oU q k F j=jC q (og q (aV q F k)) j:=λj=>by unfold oU cS;rw[if_pos n]
 rw[v]at hi
 have pl:=u4 q.ng (aV q F k).length (fj q.ng (aV q F k)) hi
 rw[y,w]
 show(eO q (og q (aV q F k) i).m (og q (aV q F k) i).L (og q (aV q F k) i).C).1=bu (pM (λl=>DB q F k (og q (aV q F k) i).W (We q) (FV k F l)) (mY F k))/\(eO q (og q (aV q F k) i).m (og q (aV q F k) i).L (og q (aV q F k) i).C).2=[49]/\(dQ q (og q (aV q F k) i).m (og q (aV q F k) i).G (og q (aV q F k) i).C).1=bu (pM (λl=>DB q F k (og q (aV q F k) i).W (Wf q) (FV k F l)) (mY F k))/\(dQ q (og q (aV q F k) i).m (og q (aV q F k) i).G (og q (aV q F k) i).C).2=[49]
 have B:oc q F k (og q (aV q F k) i):=Ho q F k hi
 have fl:=(Dl q F k).list _ pl
 have D:=λx=>V4 (x:=x) (Xs hq) pl
 simp only[D]at fl
 have fl:(List.range (og q (aV q F k) i).m).map (λa=>((og q (aV q F k) i).T a).toNat)=(List.range k).filter λf=>gk q (F f)&&WA q (og q (aV q F k) i).W (F f):=fl
 generalize og q (aV q F k) i=Y1 at*
 have c:∀i,i<Y1.m->∃f:Nat,f<k/\(Y1.T i).toNat=f/\gk q (F f)=true/\Y1.L i=kR q (F f)/\Y1.G i=lJ q (F f)/\Y1.C i=Br q (F f):=λi hi=>by
  obtain⟨f,f1,g,d⟩:=B i hi
  grind
 have pL:∀i,i<Y1.m->0<=Y1.L i:=λi hi=>by obtain⟨f,f1,g,d,h,f5,f6⟩:=c i hi;rw[h];exact(U5 r (o f f1) d).1
 have s:∀i,i<Y1.m->0<=Y1.G i:=λi hi=>by obtain⟨f,f1,g,d,h,f5,f6⟩:=c i hi;rw[f5];exact(U5 r (o f f1) d).2
 have E:q.a=1->∀i,i<Y1.m->Y1.L i=1:=λa1 i hi=>by obtain⟨f,f1,g,d,h,f5,f6⟩:=c i hi;rw[h];exact(U6 a1 d).1
 have H:q.a=1->∀i,i<Y1.m->Y1.G i=1:=λa1 i hi=>by obtain⟨f,f1,g,d,h,f5,f6⟩:=c i hi;rw[f5];exact(U6 a1 d).2
 have all:∀φ:ay->Nat,pM (λi=>φ (F (Y1.T i).toNat)) Y1.m=pM (λl=>DB q F k Y1.W φ (FV k F l)) (mY F k):=λφ=>by
  rw[UN fl λf=>φ (F f),YR (I:=FV k F) (t:=λf=>(F f).t) (p:=mY F k) (λa b ha J e=>Zq hA ha J e) _ _ λf u=>⟨V1 F f,Zp u,(V2 u).symm⟩]
  rfl
 rw[zZ ha _ _ _ pL,ZW ha _ _ _ s,Zt _ pL E,aaH s H,<-all,<-all]
 refine⟨congrArg bu (su λi hi=>?_),rfl,congrArg bu (su λi hi=>?_),rfl⟩
 ·obtain⟨f,f1,g,d,h,f5,f6⟩:=c i hi
  rw[g,h,f6];rfl
 ·obtain⟨f,f1,g,d,h,f5,f6⟩:=c i hi
  rw[g,f5];rfl
end Go.Sx
end
section
set_option maxRecDepth 100000
namespace Go.Sx
open Go Go.Sort Go.Shelf Go.Proofs
def P4(x:ay):Prop:=x.h<=50/\x.b<=39
theorem aa4{x S}(hx:P4 x)(h:∀f,P4 (S.2 f))(f):P4 ((xk x S).2 f):=by
 unfold xk
 cases Nat.blt (ku x S.2 S.1) S.1&&oV (S.2 (ku x S.2 S.1)) x with
 |true=>exact h f
 |false=>
  show P4 (Ba (ku x S.2 S.1) x S.2 f)
  unfold Ba
  grind
theorem aa5(n)(X)(f):P4 (oW n X f):=by
 have go:∀i f,P4 ((gp X i).2 f):=λi=>by
  induction i with
  |zero=>exactλf=>⟨by show(0:Int)<=50;omega,by show(0:Int)<=39;omega⟩
  |succ i a=>
   refine aa4 ?_ a
   have b:=cj (c:=X i 3) (n:=40) O
   have d:=cj (c:=X i 4) (n:=12) O
   have e:=cj (c:=X i 5) (n:=40) O
   refine⟨?_,?_⟩
   ·show av (X i 3) 40+av (X i 4) 12<=50;omega
   ·show av (X i 5) 40<=39;omega
 exact go _ f
theorem aaI{q x i}(hi:i<jQ q x):x.l<=fT q x i/\fT q x i<=x.h:=by
 have hi:i<(NH q x (3*(q.nw+2))).length:=hi
 have h:qS q x (fT q x i)=true:=QP (q:=q) (x:=x) (k:=3*(q.nw+2)) (by
  unfold fT
  grind)
 unfold qS xG at h
 grind
theorem Sy{q x}(hq:Hl q=true)(d:bB x=true)(c:gk q x=true)(f:P4 x):We q x<=50/\Wf q x<=50:=by
 obtain⟨⟨g,j,k⟩,m,n⟩:=jx d
 obtain⟨o,p⟩:=f
 have a:kR q x<=50:=by
  unfold kR
  rw[c]
  show(if q.a=1 then 1 else if q.fl=7 then x.b else match jA q x with|true=>x.l|false=>jc (fT q x) (jQ q x))<=50
  split
  ·omega
  ·split
   ·omega
   ·split
    ·omega
    ·obtain⟨i,hi,e⟩:=Dg (fT q x) (jQ q x) (wX hq c)
     rw[e];have:=aaI hi;omega
 have b:lJ q x<=50:=by
  unfold lJ
  rw[c]
  show(if q.a=1 then 1 else if q.fl=7 then x.b else match jA q x with|true=>x.h|false=>cG (fT q x) (jQ q x))<=50
  split
  ·omega
  ·split
   ·omega
   ·split
    ·omega
    ·obtain⟨i,hi,e⟩:=Dh (fT q x) (jQ q x) (wX hq c)
     rw[e];have:=aaI hi;omega
 unfold We Wf
 grind
theorem aau{q F k}(hq:Hl q=true)(c:∀j,j<k->bB (F j)=true)(hS:∀j,j<k->P4 (F j))(W)(t):DB q F k W (We q) t<=k*50/\DB q F k W (Wf q) t<=k*50:=by
 have go:∀φ:ay->Nat,(∀j,j<k->gk q (F j)=true->φ (F j)<=50)->DB q F k W φ t<=k*50:=λφ h=>Rk λi hi=>by
  grind
 exact⟨go _ λj a b=>(Sy hq (c j a) b (hS j a)).1,go _ λj a b=>(Sy hq (c j a) b (hS j a)).2⟩
theorem aav{q:Query}{F:Nat->ay}{k:Nat}(hq:Hl q=true)(l:k<=1000)(c:∀j,j<k->bB (F j)=true)(hS:∀j,j<k->P4 (F j)):aby q k F=true:=by
 refine Z2.2 λa b j e=>?_
 have d:=Ho q F k b
 have o:(og q (aV q F k) a).m<=k:=(lG q F k).ms _ (u4 q.ng (aV q F k).length (fj q.ng (aV q F k)) b)
 generalize og q (aV q F k) a=Y1 at*
 obtain⟨r1,p,g⟩:=HA (Hp F Y1) Y1.m
 have le:=Hr (Hp F Y1) Y1.m (j+1)
 have r:=(g j e).1
 obtain⟨e1,h⟩:=TA hq c d le
 have ix:∀i,i<jy (Hp F Y1) Y1.m (j+1)-jy (Hp F Y1) Y1.m j->(Y1.T (jy (Hp F Y1) Y1.m j+i)).toNat<k/\gk q (F (Y1.T (jy (Hp F Y1) Y1.m j+i)).toNat)=true:=λi hi=>by
  obtain⟨f,f1,s,t,_⟩:=d (jy (Hp F Y1) Y1.m j+i) O
  grind
 rw[e1,h]
 have u:=Rk (f:=λi=>We q (F (Y1.T (jy (Hp F Y1) Y1.m j+i)).toNat)) (B:=50) (n:=jy (Hp F Y1) Y1.m (j+1)-jy (Hp F Y1) Y1.m j) λi hi=>(Sy hq (c _ (ix i hi).1) (ix i hi).2 (hS _ (ix i hi).1)).1
 have v:=Rk (f:=λi=>Wf q (F (Y1.T (jy (Hp F Y1) Y1.m j+i)).toNat)) (B:=50) (n:=jy (Hp F Y1) Y1.m (j+1)-jy (Hp F Y1) Y1.m j) λi hi=>(Sy hq (c _ (ix i hi).1) (ix i hi).2 (hS _ (ix i hi).1)).2
 have w:(jy (Hp F Y1) Y1.m (j+1)-jy (Hp F Y1) Y1.m j)*50<=1000*50:=Nat.mul_le_mul_right 50 O
 omega
end Go.Sx
end
section
set_option maxRecDepth 100000
namespace Go.Sx
open Go Go.Sort Go.Shelf Go.Proofs
def YS(w:Nat)(W:Nat->Int)(t:Int):Nat:=(CN w W t).toNat
theorem adQ(w)(W)(t):0<YS w W t/\YS w W t<=9:=by
 have:=abo w W t
 unfold YS;omega
theorem adR{k F}(w)(W){j}(h:j<k):Ka w W F j=bu (YS w W (FV k F (V1 F j))):=by
 rw[V2 h];rfl
theorem aab{F k}(hA:TG F k)(b:∀j,j<k->bB (F j)=true)(P):Good (aP P k) λj=>F (eQ P k j):=
 ⟨λ_ a=>b _ (VQ a).1,λj a=>aaF hA (abl a (Nat.lt_succ_self j)) (VQ a).1⟩
def XW(x y d:Nat->Nat)(p c j:Nat):Nat:=match j with
 |0=>Ol x d c p
 |1=>Ol y d c p
 |2=>Z4 x d c p
 |_=>Z4 y d c p
section
variable {q:Query} {k:Nat} {F:Nat->ay}
theorem aac(ha:q.a=1∨q.a=2)(b:q.top=0)(hq:ct q=true)(e:k<=24)(hA:TG F k)(d:∀j,j<k->bB (F j)=true)(hS:∀j,P4 (F j))(w)(W)(c):
  UL q (aY q) (aP (aag F c) k) (gW (λj=>F (Bi F k c j)) λj=>Ka w W F (Bi F k c j))=true:=by
 have g:Good (aP (aag F c) k) λj=>F (Bi F k c j):=aab hA d (aag F c)
 have f:=jV (aag F c) k
 unfold UL
 rw[show qT q (aY q)=true from jv q,hq,XC,show Oq (gW (λj=>F (Bi F k c j)) λj=>Ka w W F (Bi F k c j))=λj=>F (Bi F k c j)from rfl,show VO (gW (λj=>F (Bi F k c j)) λj=>Ka w W F (Bi F k c j))=Ka w W λj=>F (Bi F k c j)from rfl,g.UI O,abp,aav (FX hq).2.2 O g.val λj _=>hS _,bW b]
 grind
theorem aad(h:q.top=0)(hq:ct q=true)(hA:TG F k)(i:∀j,j<k->bB (F j)=true)(w)(W)(c)(V)(e):
  Oj (r8 q (aP (aag F c) k) λj=>F (Bi F k c j)) q.ng (FM q (aP (aag F c) k) λj=>F (Bi F k c j)) (AS q (aP (aag F c) k) (λj=>F (Bi F k c j)) λj=>Ka w W F (Bi F k c j)) V e=
   Om (XW (λl=>DB q F k V (We q) (FV k F l)) (λl=>DB q F k V (Wf q) (FV k F l)) (λl=>YS w W (FV k F l)) (mY F k) c) e:=by
 have g:Good (aP (aag F c) k) λj=>F (Bi F k c j):=aab hA i (aag F c)
 rw[abU h hq g.val (λj m=>g.ord j m) (D:=λj=>Ka w W F (Bi F k c j)) (dT:=YS w W) (λf _=>cq _) (I:=FV k F) (p:=mY F k) (λa b ha n e=>Zq hA ha n e) (λf d=>⟨V1 F (Bi F k c f),Zp (VQ d).1,(V2 (VQ d).1).symm⟩) V e]
 obtain⟨e1,o,r,s⟩:=abV (q:=q) hA V (YS w W) c
 unfold Om
 rw[e1,o,r,s]
 rfl
theorem aaw(b:q.top=0)(hq:ct q=true)(hA:TG F k)(d:∀j,j<k->bB (F j)=true)(w)(W)(c)(V):
  Wb (r8 q (aP (aag F c) k) λj=>F (Bi F k c j)) q.ng (xu q.ng (FM q (aP (aag F c) k) λj=>F (Bi F k c j)) (AS q (aP (aag F c) k) (λj=>F (Bi F k c j)) λj=>Ka w W F (Bi F k c j))) (aM (ae V))
   (Om (XW (λl=>DB q F k V (We q) (FV k F l)) (λl=>DB q F k V (Wf q) (FV k F l)) (λl=>YS w W (FV k F l)) (mY F k) c))=true:=by
 have h:=λe=>aad (e:=e) b hq hA d w W c V
 generalize r8 q (aP (aag F c) k) (λj=>F (Bi F k c j))=N at*
 generalize FM q (aP (aag F c) k) (λj=>F (Bi F k c j))=a at*
 generalize AS q (aP (aag F c) k) (λj=>F (Bi F k c j)) (λj=>Ka w W F (Bi F k c j))=B at*
 generalize Om _=T at*
 exact aaY.2 λc f=>(aaZ N q.ng a B V f).trans (h c)
theorem aae(hq:Hl q=true)(b:k<=24)(a:∀j,j<k->bB (F j)=true)(hS:∀j,P4 (F j))(V)(p):
  XU (λl=>DB q F k V (We q) (FV k F l)) p/\XU (λl=>DB q F k V (Wf q) (FV k F l)) p:=by
 have h:=λt=>aau (t:=t) hq a (λj _=>hS j) V
 exact⟨λl _=>Y,λl _=>Y⟩
theorem aaf{k0}(a:k=Rl k0 F)(w)(W):parts (λl=>YS w W (FV k F l)) (mY F k):=
 ⟨XN (k:=k0) O,λl _=>adQ w W _⟩
theorem acU{k0}(d:k<=k0){l}(hl:l<mY F k):FV k0 F l=FV k F l:=by
 obtain⟨j,b,a,c⟩:=XR hl
 rw[<-c,Ur (O:j<k0) a,Ur b a]
end
end Go.Sx
end
section
set_option maxRecDepth 1000000
namespace Go.Sx
open Go
theorem uu(X)(j):(1<=cW X j 0/\cW X j 0<=8)/\(1<=cW X j 1/\cW X j 1<=4)/\(-1<=cW X j 2/\cW X j 2<=38):=by
 have a:=cj (c:=X j 0) (n:=11) O
 have b:=cj (c:=X j 1) (n:=4) O
 have d:=cj (c:=X j 2) (n:=40) O
 refine⟨?_,?_,?_⟩
 ·show 1<=ma (X j 0)/\ma (X j 0)<=8
  unfold ma
  grind
 ·show 1<=1+av (X j 1) 4/\1+av (X j 1) 4<=4;omega
 ·show -1<=av (X j 2) 40-1/\av (X j 2) 40-1<=38;omega
theorem xA{l m:List Int}{i d}(h:i<l.length):(l++m).getD i d=l.getD i d:=by
 grind
theorem qQ(p):∀(k i),i<(bM p k).length->(1<=(bM p k).getD i 0/\(bM p k).getD i 0<=(k:Int))/\(i=0∨(bM p k).getD (i-1) 0<(bM p k).getD i 0)
 |0,i,h=>by simp[bM]at h
 |k+1,i,h=>by
  have b:=qQ p k
  unfold bM at h⊢
  split at h
  ·rename_i c
   simp only[List.length_append,List.length_singleton]at h
   by_cases e:i<(bM p k).length
   grind
   ·have a:i=(bM p k).length:=by omega
    have el:(bM p k++[(k:Int)+1]).getD i 0=(k:Int)+1:=by
     rw[a,List.getD_eq_getElem?_getD,List.getElem?_append_right (dw _),Nat.sub_self];rfl
    grind
  grind
theorem OO{k}(h:k<11):oa (wy k) (wz k)=true:=List.any_eq_true.2 ⟨k,List.mem_range.2 h,zA⟩
theorem OP(agg)(n)(X)(g top):Hl (cJ agg n X g top)=true:=by
 have f:=qQ (av g 64) 6
 have hl:=rH (av g 64) 6
 have r:=cj (c:=agg) (n:=5) O
 have s:=cj (c:=Int.tdiv agg 5) (n:=2) O
 have i:=cj (c:=Int.tdiv agg 10) (n:=11) O
 have ht:=cj (c:=top) (n:=5) O
 unfold Hl
 simp only[bf,bn]
 refine⟨⟨⟨⟨⟨?_,hl⟩,?_⟩,?_⟩,?_⟩,?_⟩
 ·show min n 6<=6;omega
 ·refine List.all_eq_true.2 λj _=>?_
  have:=uu X j
  show(decide (1<=cW X j 0)&&decide (cW X j 0<=8)&&decide (1<=cW X j 1)&&decide (cW X j 1<=4)&&decide (-1<=cW X j 2)&&decide (cW X j 2<=4398046511104))=true
  grind
 ·refine List.all_eq_true.2 λj k=>?_
  have:=f j (List.mem_range.1 k)
  show(decide (1<=(bM (av g 64) 6).getD j 0)&&decide ((bM (av g 64) 6).getD j 0<=6)&&(Nat.beq j 0||decide ((bM (av g 64) 6).getD (j-1) 0<(bM (av g 64) 6).getD j 0)))=true
  simp_all
 ·show(decide (0<=(cJ agg n X g top).top)&&decide ((cJ agg n X g top).top<=100)&&(decide ((cJ agg n X g top).top<=0)||Nat.blt 0 (bM (av g 64) 6).length))=true
  have e:(cJ agg n X g top).top=match decide (Int.ofNat (bM (av g 64) 6).length>0)with|true=>av top 5|false=>0:=rfl
  rw[e]
  cases b:decide (Int.ofNat (bM (av g 64) 6).length>0)with
  |true=>
   have b:=pT b
   have:0<(bM (av g 64) 6).length:=by
    have:((bM (av g 64) 6).length:Int)>0:=b
    omega
   simp only
   rw[bW O,bW O,eV this,Bool.or_true];rfl
  |false=>rfl
 ·unfold EV
  have l:(cJ agg n X g top).a=1+av agg 5:=rfl
  have m:(cJ agg n X g top).fl=match decide (1+av agg 5>1)with|true=>7+av (Int.tdiv agg 5) 2|false=>0:=rfl
  have o:(cJ agg n X g top).nu=match decide (1+av agg 5=5)with|true=>wy (Int.toNat (av (Int.tdiv agg 10) 11))|false=>[]:=rfl
  have p:(cJ agg n X g top).de=match decide (1+av agg 5=5)with|true=>wz (Int.toNat (av (Int.tdiv agg 10) 11))|false=>[]:=rfl
  rw[l,m,o,p]
  generalize av agg 5=a at*
  have d:(decide (7+av (Int.tdiv agg 5) 2=7)||decide (7+av (Int.tdiv agg 5) 2=8))=true:=by
   simp only[Bool.or_eq_true,bn];omega
  have:a=0∨a=4∨(1<=a/\a<=3):=O
  rcases this with rfl|rfl|h
  ·rfl
  ·have e1:decide ((1:Int)+4>1)=true:=rfl
   have q:decide ((1:Int)+4=5)=true:=rfl
   rw[e1,q]
   simp only
   rw[d,OO O]
   simp
  grind
theorem J8(agg)(n)(X)(g top):aI 3 (cJ agg n X g top).nw (au (cJ agg n X g top).C)=true:=by
 refine List.all_eq_true.2 λj _=>?_
 have:=uu X j
 show(aN .i64 (cW X j 0)&&(aN .i64 (cW X j 1)&&(aN .i64 (cW X j 2)&&true)))=true
 rw[aq O O,aq O O,aq O O];rfl
theorem J9(agg)(n)(X)(g top):aI 1 (cJ agg n X g top).ng (aR (cJ agg n X g top).G)=true:=by
 refine List.all_eq_true.2 λj a=>?_
 have:=qQ (av g 64) 6 j (List.mem_range.1 a)
 show(aN .i64 ((bM (av g 64) 6).getD j 0)&&true)=true
 rw[aq O O];rfl
end Go.Sx
end
section
set_option maxRecDepth 1000000
namespace Go.Sx
open Go
theorem RM(q:Query)(n:Nat)(F:Nat->ay):r8 q n F<=n:=by
 have h:=(lG q F n).len
 unfold r8 ju
 split
 ·exact h
 ·exact Nat.le_trans (jV _ _) h
end Go.Sx
end
section
set_option maxRecDepth 1000000
namespace Go.Sx
open Go
theorem Ut(a:List UInt8):List.beq a a=true:=by rw[show List.beq a a=(a==a)from rfl];simp
theorem acV{p}(h:p<=5):1*Int.pow 2 (min (Int.toNat (Int.ofNat p)) 64)=((2^p:Nat):Int)/\2^p<=32:=by
 have e:min (Int.toNat (Int.ofNat p)) 64=p:=by show min p 64=p;omega
 refine⟨?_,Nat.pow_le_pow_right (n:=2) zC h⟩
 rw[e,Int.one_mul]
 rfl
section
variable {q:Query} {k k0:Nat} {F:Nat->ay} {Z:Nat->Int} {RN:Nat} {RA:Nat->Nat->Int} {RB:Nat->Nat->List UInt8}
theorem abW(ha:q.a=1∨q.a=2)(u:q.top=0)(hq:ct q=true)(B:k<=24)(C:k=Rl k0 F)(E:∀l,l<mY F k->Z l=FV k F l)(hA:TG F k)(m:∀j,j<k->bB (F j)=true)(hS:∀j,P4 (F j))(w)(W)(hR:RN<=1000){i}(hi:i<RN):
  eu PP II false (aD II 5 25005) 40 (Ou q k F (Ka w W F) (mY F k) Z RN RA RB (i:Int) (λc=>MF (λl=>DB q F k (RA i) (We q) (FV k F l)) (λl=>DB q F k (RA i) (Wf q) (FV k F l)) (λl=>YS w W (FV k F l)) (mY F k) c.toNat) 0)
   (Pz q k F (Ka w W F) (mY F k) Z RN RA RB (i:Int) (MF (λl=>DB q F k (RA i) (We q) (FV k F l)) (λl=>DB q F k (RA i) (Wf q) (FV k F l)) (λl=>YS w W (FV k F l)) (mY F k) (2^mY F k))):=by
 have g:=aaf C w W
 have h3:=Xs hq
 obtain⟨tx,ty⟩:=aae (p:=mY F k) (FX hq).2.2 B m hS (RA i)
 have o:=λc=>aaw u hq hA m w W c (RA i)
 have G:=λ(b:Nat->List UInt8) (c:Nat)=>acR (q:=q) (Z:=Z) (D:=Ka w W F) (RN:=RN) (RA:=RA) (RB:=RB) (d:=λl=>YS w W (FV k F l)) E hA O g (λj H=>adR w W H) (i:Int) b c
 generalize hx:(λl=>DB q F k (RA i) (We q) (FV k F l))=x at*
 generalize hy:(λl=>DB q F k (RA i) (Wf q) (FV k F l))=y at*
 generalize I:(λl=>YS w W (FV k F l))=d at*
 refine eu.CS (λa=>[W4,abE q (r8 q (aP (aag F a) k) (λj=>F (Bi F k a j))) (FM q (aP (aag F a) k) (λj=>F (Bi F k a j))) (AS q (aP (aag F a) k) (λj=>F (Bi F k a j)) (λj=>Ka w W F (Bi F k a j))),aas (Om (XW x y d (mY F k) a)),TL,abc]) (λa=>[(30004,42,Q1 q k F (Ka w W F) (mY F k) Z RN RA RB (i:Int) ((λc=>MF x y d (mY F k) (Int.toNat c)) (a:Int)) (a:Int) (λj=>F (Bi F k a j)) (λj=>Ka w W F (Bi F k a j)) (λn=>aP (aag F a) (TM k F n.toNat)) (λn=>Rm d a n.toNat) (λn=>Rn d a n.toNat) 0,Tp q k F (Ka w W F) (mY F k) Z RN RA RB (i:Int) ((λc=>MF x y d (mY F k) (Int.toNat c)) (a:Int)) (a:Int) (λj=>F (Bi F k a j)) (λj=>Ka w W F (Bi F k a j)) (aP (aag F a) k) (Rm d a (mY F k)) (Rn d a (mY F k)))]) (n:=(2^mY F k)) A λa J Q hQ=>?_
 obtain⟨K,L⟩:=acV g.1
 have er:Int.ofNat RN=(RN:Int):=rfl
 have e:=abP q k F (Ka w W F) (mY F k) Z RN RA RB (i:Int) (λc=>MF x y d (mY F k) (Int.toNat c)) (MF x y d (mY F k) (2^mY F k)) (λj=>F (Bi F k a j)) (λj=>Ka w W F (Bi F k a j)) (λn=>aP (aag F a) (TM k F n.toNat)) (λn=>Rm d a n.toNat) (λn=>Rn d a n.toNat) (aP (aag F a) k) (Rm d a (mY F k)) (Rn d a (mY F k)) (r8 q (aP (aag F a) k) (λj=>F (Bi F k a j))) (FM q (aP (aag F a) k) (λj=>F (Bi F k a j))) (AS q (aP (aag F a) k) (λj=>F (Bi F k a j)) (λj=>Ka w W F (Bi F k a j))) (Om (XW x y d (mY F k) a)) (a:Int) Q
 refine Eq.mpr e ?_
 clear e
 rw[K,show Int.toNat (a:Int)=a from rfl,show Int.toNat (i:Int)=i from rfl,show Int.toNat ((a:Int)+1)=a+1 by omega]
 try rw[Wv]
 try rw[Xj]
 refine cC _ _ ?_ (Zg (λh=>?_) λh=>?_)
 ·rw[bW zA,aq O O];rfl
 ·have r:a<2^mY F k:=by omega
  have hq':=hQ r
  have cl:=jV (aag F a) k
  have z0:aP (aag F a) (TM k F (Int.toNat 0))=0:=by rw[show Int.toNat 0=0 from rfl,acI];rfl
  have N:([49]:List UInt8)=Rm d a (Int.toNat 0):=by rw[<-GR];exact(Ow 1).1
  have P:([49]:List UInt8)=Rn d a (Int.toNat 0):=(Ow 1).2
  have fr:(List.all (List.range (aP (aag F a) k)) (λi=>bt.free (gW (λj=>F (Bi F k a j)) (λj=>Ka w W F (Bi F k a j)) i))&&decide (aP (aag F a) k<=aP (aag F a) k))=true:=by
   rw[bW (dw _),Bool.and_true]
   exact List.all_eq_true.2 λ_ _=>rfl
  have R:(UL q (aY q) (aP (aag F a) k) (gW (λj=>F (Bi F k a j)) (λj=>Ka w W F (Bi F k a j)))&&XO q (r8 q (aP (aag F a) k) (λj=>F (Bi F k a j))) (FM q (aP (aag F a) k) (λj=>F (Bi F k a j))) (AS q (aP (aag F a) k) (λj=>F (Bi F k a j)) (λj=>Ka w W F (Bi F k a j))) (aP (aag F a) k) (gW (λj=>F (Bi F k a j)) (λj=>Ka w W F (Bi F k a j))))=true:=by
   rw[bf]
   exact⟨aac ha u hq B hA m hS w W a,aar q _ _ _⟩
  have rn:=RM q (aP (aag F a) k) (λj=>F (Bi F k a j))
  have S:(Z3 q.ng (r8 q (aP (aag F a) k) (λj=>F (Bi F k a j))) (xu q.ng (FM q (aP (aag F a) k) (λj=>F (Bi F k a j))) (AS q (aP (aag F a) k) (λj=>F (Bi F k a j)) (λj=>Ka w W F (Bi F k a j))))&&bA q.ng (ae (RA i))&&Nat.ble (r8 q (aP (aag F a) k) (λj=>F (Bi F k a j))) 1000000&&Nat.ble q.ng 1000000&&Wb (r8 q (aP (aag F a) k) (λj=>F (Bi F k a j))) q.ng (xu q.ng (FM q (aP (aag F a) k) (λj=>F (Bi F k a j))) (AS q (aP (aag F a) k) (λj=>F (Bi F k a j)) (λj=>Ka w W F (Bi F k a j)))) (aM (ae (RA i))) (Om (XW x y d (mY F k) a)))=true:=by
   rw[aaW,kc,kV O,kV O,show Wb (r8 q (aP (aag F a) k) (λj=>F (Bi F k a j))) q.ng (xu q.ng (FM q (aP (aag F a) k) (λj=>F (Bi F k a j))) (AS q (aP (aag F a) k) (λj=>F (Bi F k a j)) (λj=>Ka w W F (Bi F k a j)))) (aM (ae (RA i))) (Om (XW x y d (mY F k) a))=true from o a]
   rfl
  have bi:(decide ((0:Int)<=(i:Int))&&decide ((i:Int)<Int.ofNat RN))=true:=by simp only[bf,bn];omega
  obtain⟨T,U,V⟩:=XV (v:=Ol x d a (mY F k)) (Nat.le_trans (Zr g tx a) zC)
  obtain⟨X,Y,p3⟩:=XV (v:=Ol y d a (mY F k)) (Nat.le_trans (Zr g ty a) zC)
  have f:a<32:=O
  obtain⟨m0,o0,e0,e1⟩:=UZ g tx ty f 0
  obtain⟨m1,o1,e2,e3⟩:=UZ g tx ty f 1
  obtain⟨m2,o2,e4,e5⟩:=UZ g tx ty f 2
  obtain⟨m3,o3,e6,e7⟩:=UZ g tx ty f 3
  obtain⟨m4,o4,e8,e9⟩:=UZ g tx ty f 4
  obtain⟨m5,o5,s,t⟩:=UZ g tx ty f 5
  rw[show Om (XW x y d (mY F k) a) 0=bu (Ol x d a (mY F k))from rfl,show Om (XW x y d (mY F k) a) 1=[49]from rfl,show Om (XW x y d (mY F k) a) 2=bu (Ol y d a (mY F k))from rfl,show Om (XW x y d (mY F k) a) 3=[49]from rfl,U,V,Y,p3]
  refine⟨G _ a,YG z0 (Zi N (Zi P ?_))⟩
  repeat' (with_reducible first|exact hq'|exact trivial|rfl|exact TB _ _ _|exact bL _ _|exact bC _ _|exact bO _ _|exact aZ|exact eP _ _ _ _|refine YG z0 ?_|refine Zi A ?_|refine Zf A ?_|refine YG A ?_|refine And.intro ?_ ?_)
  refine cC _ _ fr (cC _ _ (Bl A A A A A A A A) (cC _ _ R (cC _ _ bi (cC _ _ S (cC _ _ T (cC _ _ X (cC _ _ m0 (cC _ _ o0 (cC _ _ A (cC _ _ m1 (cC _ _ o1 (cC _ _ A (cC _ _ m2 (cC _ _ o2 (cC _ _ A (cC _ _ m3 (cC _ _ o3 (cC _ _ A (cC _ _ m4 (cC _ _ o4 (cC _ _ A (cC _ _ m5 (cC _ _ o5 (cC _ _ A (cC _ _ (aq O O) (Zi e0 (Zi e1 (Zi e2 (Zi e3 (Zi e4 (Zi e5 (Zi e6 (Zi e7 (Zi e8 (Zi e9 (Zi s (Zi t ?_)))))))))))))))))))))))))))))))))))))
  exact ZT
 ·have e:a=2^mY F k:=by omega
  subst e
  have hq':=trivial
  have z0:=trivial
  exact ZT
end
end Go.Sx
end
section
set_option maxRecDepth 1000000
namespace Go.Sx
open Go
theorem abX(q:Query)(k:Nat)(F:Nat->ay)(D:Nat->List UInt8)(p:Nat)(Z:Nat->Int)(RN:Nat)(RA:Nat->Nat->Int)(RB:Nat->Nat->List UInt8)(b:Int->Nat->List UInt8)(c:Nat->List UInt8)(i:Int)(Q:Prop):(kr [W4,TL,VK] [(25005,40,Ou q k F D p Z RN RA RB i b 0,Pz q k F D p Z RN RA RB i c)] 5 17004 33 (Nw q k F D p Z RN RA RB) (λ_=>Nx) (λi=>i+1) Q i)=(let d:=(decide (0<=i)&&decide (i<Int.ofNat RN));let e:=(zS (c 0) (c 1) (c 0) (c 1));let f:=(zT (c 0) (c 1) (c 0) (c 1));let g:=(zS (c 2) (c 3) (c 2) (c 3));let h:=(zT (c 2) (c 3) (c 2) (c 3));(ah (decide (i<Int.ofNat RN)) (aa (aN .i64 1) (aa (aN .i64 2) (aa (aN .i64 3) (aa (aN .i64 4) (aa (aN .i64 5) (aa (aN .i64 6) (eu PP II false (aD II 5 25005) 40 (Ou q k F D p Z RN RA RB i b 0) (Pz q k F D p Z RN RA RB i c)/\bI [48] (b 0 0) (bI [49] (b 0 1) (bI [48] (b 0 2) (bI [49] (b 0 3) (bI [48] (b 0 4) (bI [49] (b 0 5) (bI [48] (b 0 6) (bI [49] (b 0 7) (bI [48] (b 0 8) (bI [49] (b 0 9) (bI [48] (b 0 10) (bI [49] (b 0 11) (zyN p (zyR p (ae Z) (zyN q.nw (zyR q.nw (au q.C) (zyN q.ng (zyR q.ng (aR q.G) (zyI q.a (zyI q.fl (zyB q.nu (zyB q.de (zyI q.top (zyB [49] (zyB [49] (zyB [48] (zyB [49] (zyB [48] (zyB [49] (zyR 5 aA (zyI i (true=true/\zyN RN (zyR RN (aX q.ng RA RB) (zyN k (zyR k (gW F D) (zyN p (false=false/\aa (Ed (c 0) (c 1) (c 0) (c 1)) (aa (aN .i64 2) (aa (RO (c 4) (c 5) e f) (aa d (ah (!(List.beq (c 0) (RB i.toNat 0)&&(List.beq (c 1) (RB i.toNat 1)&&true))) False (aa (aN .i64 4) (ah (!(List.beq (RG (c 4) (c 5) e f) (c 8)&&(List.beq (RH (c 4) (c 5) e f) (c 9)&&true))) False (aa (aN .i64 1) (aa (Ed (c 2) (c 3) (c 2) (c 3)) (aa (aN .i64 3) (aa (RO (c 6) (c 7) g h) (aa d (aa d (ah (!(List.beq (c 2) (RB i.toNat 2)&&(List.beq (c 3) (RB i.toNat 3)&&true))) False (aa (aN .i64 5) (ah (!(List.beq (RG (c 6) (c 7) g h) (c 10)&&(List.beq (RH (c 6) (c 7) g h) (c 11)&&true))) False (aa (aN .i64 2) (aa (aN .i64 (i+1)) (zyN p (zyR p (ae Z) (zyN q.nw (zyR q.nw (au q.C) (zyN q.ng (zyR q.ng (aR q.G) (zyI q.a (zyI q.fl (zyB q.nu (zyB q.de (zyI q.top (zyB [49] (zyB [49] (zyB [48] (zyB [49] (zyB [48] (zyB [49] (zyR 5 aA (zyI (i+1) (true=true/\zyN RN (zyR RN (aX q.ng RA RB) (zyN k (zyR k (gW F D) (zyN p (false=false/\Q))))))))))))))))))))))))))))))))))))))))))))))))))))))))))))))))))))))))))))))))))))) (true=true/\false=false/\True))):=U
theorem acW(n:Nat)(X:Nat->Nat->Int)(m:Nat)(C:Nat->Nat->Int)(agg g top:Int)(w:Nat)(W Z:Nat->Int)(b:Int)(q:Query)(k:Nat)(F:Nat->ay)(p:Int->Nat)(c d:Nat)(RN:Nat)(RA:Nat->Nat->Int)(RB:Nat->Nat->List UInt8)(D:Nat->List UInt8)(Q:AV->Prop):(jE [S7,XE,OE (Bj b q),Hz k F,abq,Vo (Bj b q) RN RA RB] (mG PP II [(6004,32,LN (Bj b q) k F w W Z p 0,LO (Bj b q) F w W Z c d),(17004,33,Nw (Bj b q) c F D d Z RN RA RB 0,Nx)]) 1000 5 [.agg [.int .i64 agg,.ab m 3 (au C),.int .i64 g,.int .i64 top],.ab n 6 (fm X),.ab w 1 (ae W)] Hm (λa H=>aa (Nat.ble 14 H.n) (Q a)) (λ_ _=>False))=(let f:=(eT.cells [AV.str [48],AV.str [49]] Access.ro);let h:=(decide (m=m)&&true&&List.all (List.range m) λi=>decide (C i 0=C i 0)&&(decide (C i 1=C i 1)&&(decide (C i 2=C i 2)&&true)));let e:=(av (Int.tdiv agg 10) 2+5*av agg 2);(aa (FY (eT.cells [AV.ab 5 2 aA] Access.ro) f (eT.cells [AV.int .i64 7,AV.int .i64 9,AV.int .i64 11,AV.int .i64 99] Access.ro) (eT.cells [AV.map (some 13)] Access.ro) (eT.cells [AV.int .u64 1,AV.int .u64 10,AV.int .u64 100,AV.int .u64 1000,AV.int .u64 10000,AV.int .u64 100000,AV.int .u64 1000000,AV.int .u64 10000000,AV.int .u64 100000000,AV.int .u64 1000000000,AV.int .u64 10000000000,AV.int .u64 100000000000,AV.int .u64 1000000000000,AV.int .u64 10000000000000,AV.int .u64 100000000000000,AV.int .u64 1000000000000000,AV.int .u64 10000000000000000,AV.int .u64 100000000000000000,AV.int .u64 1000000000000000000,AV.int .u64 10000000000000000000] (Access.ex 20)) f (eT.cells [AV.str [49],AV.str [49]] Access.ro) (eT.map OZ)) (aa (aN .i64 (Int.tdiv agg 10)) (aa (aN .i64 (Int.tdiv agg 10)) (aa (decide (agg=agg)) (aa (aN .i64 agg) (aa (aN .i64 (5*av agg 2)) (aa (aN .i64 e) (aa h (aa h (aa (decide (g=g)) (aa (decide (g=g)) (aa (aI 3 m (au C)&&aN .i64 e&&aN .i64 g&&aN .i64 0&&tC (Bj b q) e m (au C) g 0) (aa (aI 6 n (fm X)&&zp k F n (fm X)) (eu PP II false (aD II 5 6004) 32 (LN (Bj b q) k F w W Z p 0) (LO (Bj b q) F w W Z c d)/\ax (p 0) 0 (zyN q.nw (zyR q.nw (au q.C) (zyN q.ng (zyR q.ng (aR q.G) (zyI b (zyI q.fl (zyB q.nu (zyB q.de (zyB [49] (zyB [49] (zyB [48] (zyB [49] (zyB [48] (zyB [49] (zyR 5 aA (true=true/\zyN k ((an k (λi=>eD (F i)) λj=>eD (F j))/\zyN w (zyR w (ae W) (ax (p 0) 0 (false=false/\aa ((fh c λj=>eD (F j))&&bA w (ae W)&&VZ c (bP λj=>eD (F j)) w (aM (ae W))) (aa ((qT (Bj b q) [AV.ab q.nw 3 (au q.C),AV.ab q.ng 1 (aR q.G),AV.int .i64 b,AV.int .i64 q.fl,AV.str q.nu,AV.str q.de,AV.int .i64 0]&&ct (Bj b q)&&fh c λj=>eD (F j))&&cX c (bP λj=>eD (F j))&&Bq (Bj b q) RN RA RB c λj=>eD (F j)) (eu PP II false (aD II 5 17004) 33 (Nw (Bj b q) c F D d Z RN RA RB 0) Nx/\zyN d (zyR d (ae Z) (zyN q.nw (zyR q.nw (au q.C) (zyN q.ng (zyR q.ng (aR q.G) (zyI b (zyI q.fl (zyB q.nu (zyB q.de (zyB [49] (zyB [49] (zyB [48] (zyB [49] (zyB [48] (zyB [49] (zyR 5 aA (true=true/\zyN RN (zyR RN (aX q.ng RA RB) (zyN c (an c (gW (bP λj=>eD (F j)) (Ka w (aM (ae W)) (bP λj=>eD (F j)))) (gW F D)/\zyN d (false=false/\Q (AV.bool true))))))))))))))))))))))))))))))))))))))))))))))))))))))))))):=U
end Go.Sx
end
