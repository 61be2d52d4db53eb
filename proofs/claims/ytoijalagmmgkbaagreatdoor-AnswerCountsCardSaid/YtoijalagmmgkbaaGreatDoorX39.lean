/- The proof of a statement of the seat, part 39. -/
import Derived.Test.YtoijalagmmgkbaaGreatDoorX19
import Derived.Test.YtoijalagmmgkbaaGreatDoorX11
import Derived.Test.YtoijalagmmgkbaaGreatDoorX30
import Derived.Test.YtoijalagmmgkbaaGreatDoorX25
import Derived.Test.YtoijalagmmgkbaaGreatDoorX23
import Derived.Test.YtoijalagmmgkbaaGreatDoorX38
set_option linter.all false
set_option linter.defProp false
section
set_option maxRecDepth 1000000
namespace Go.Sx
open Go
noncomputable def UB(n:Nat)(W V:Nat->Int)(i:Int):St:={t:=Tr.ofList [(0,.ab n 1 (ae W)),(1,.ab n 1 (ae V)),(5,.int .i64 i)],nt:=26,H:=AH.blank 12,df:=[]}
noncomputable def UC(b:Bool):GE:=.cond b (.one (.x 0 {t:=.e,nt:=26,H:=AH.blank 12,df:=[]})) (.one (.r {t:=Tr.ofList [(4,.bool false)],nt:=26,H:=AH.blank 12,df:=[]}))
theorem FN(n:Nat)(W V:Nat->Int)(b:Bool)(i:Int)(Q:Prop):(kr [] [] 16 4004 12 (UB n W V) (λ_=>UC b) (λi=>i+1) Q i)=(ah (decide (i<Int.ofNat n)) (B (decide (0<=i)&&decide (i<Int.ofNat n)) (B (decide (0<=i)&&decide (i<Int.ofNat n)) (ah (!decide (W i.toNat=V i.toNat)) (ah b False (false=false/\True)) (B (aN .i64 (i+1)) (zyN n (zyR n (ae V) (zyI (i+1) (zyN n (zyR n (ae W) Q))))))))) (ah b True False)):=U
theorem Oc(n:Nat)(W V:Nat->Int)(b:Bool)(Q:AV->Prop):(kb [] [(4004,12,UB n W V 0,UC b)] 16 [.ab n 1 (ae W),.ab n 1 (ae V)] Q)=(ah (!decide (Int.ofNat n=Int.ofNat n)) (Q (AV.bool false)) (aE PP II false (aD II 16 4004) 12 (UB n W V 0) (UC b)/\zyN n (zyR n (ae V) (zyN n (zyR n (ae W) (ah b (Q (AV.bool true)) (Q (AV.bool false)))))))):=U
def FO(a b c d e f:Int):ay:=⟨av a 40,av (Int.tdiv a 40) 3,av b 3,av (Int.tdiv b 3) 3,av c 4,av (Int.tdiv c 4) 4-1,Int.tdiv (av a 40) 10,av d 40,av d 40+av e 12,av f 40⟩
theorem UD(a b c d e f:Int)(Q:AV->Prop):(kb [gF] [] 37 [.agg [.int .i64 a,.int .i64 b,.int .i64 c,.int .i64 d,.int .i64 e,.int .i64 f]] Q)=(B (aN .i64 a&&true) (B (decide (a=a)) (B (aN .i64 (Int.tdiv a 40)) (B (aN .i64 (Int.tdiv a 40)&&true) (B (decide (b=b)) (B (decide (b=b)) (B (aN .i64 b&&true) (B (decide (b=b)) (B (decide (b=b)) (B (decide (b=b)) (B (aN .i64 (Int.tdiv b 3)) (B (aN .i64 (Int.tdiv b 3)&&true) (B (decide (c=c)) (B (decide (c=c)) (B (decide (c=c)) (B (decide (c=c)) (B (aN .i64 c&&true) (B (decide (c=c)) (B (decide (c=c)) (B (decide (c=c)) (B (decide (c=c)) (B (decide (c=c)) (B (aN .i64 (Int.tdiv c 4)) (B (aN .i64 (Int.tdiv c 4)&&true) (B (aN .i64 (av (Int.tdiv c 4) 4-1)) (B (decide (d=d)) (B (decide (d=d)) (B (decide (d=d)) (B (decide (d=d)) (B (decide (d=d)) (B (decide (d=d)) (B (aN .i64 d&&true) (B (decide (f=f)) (B (decide (f=f)) (B (decide (f=f)) (B (decide (f=f)) (B (decide (f=f)) (B (decide (f=f)) (B (decide (f=f)) (B (aN .i64 f&&true) (B (aN .i64 (Int.tdiv (av a 40) 10)) (B (aN .i64 e&&true) (B (decide (av d 40=av d 40)) (B (aN .i64 (av d 40+av e 12)) (Q (AV.agg [AV.int .i64 (av a 40),AV.int .i64 (av (Int.tdiv a 40) 3),AV.int .i64 (av b 3),AV.int .i64 (av (Int.tdiv b 3) 3),AV.int .i64 (av c 4),AV.int .i64 (av (Int.tdiv c 4) 4-1),AV.int .i64 (Int.tdiv (av a 40) 10),AV.int .i64 (av d 40),AV.int .i64 (av d 40+av e 12),AV.int .i64 (av f 40)])))))))))))))))))))))))))))))))))))))))))))))):=U
end Go.Sx
end
section
set_option maxRecDepth 1000000
namespace Go.Sx
open Go
def A9(n:Nat)(W V:Nat->Int):Bool:=(List.range n).all λi=>decide (W i=V i)
theorem FQ(n:Nat)(W V:Nat->Int)(hn:n<=1000000):aE PP II false (aD II 16 4004) 12 (UB n W V 0) (UC (A9 n W V)):=by
 have key:=aE.of (ι:=Nat) iw [] (bm PP II []) 1000 (c:=aD II 16 4004) (ir:=false) 12 (λj=>j<=n/\∀k,k<j->W k=V k) (λj=>UB n W V (j:Int)) (λ_=>UC (A9 n W V)) (λj=>n-j) (λj=>j+1) 0 A ⟨Nat.zero_le _,λk a=>absurd a (lZ _)⟩ λj d=>?_
 ·exact key
 obtain⟨d,f⟩:=d
 have go:∀(i:Int)(Q:Prop),i=(j:Int)->(j<n->W j=V j->Q)->kr [] [] 16 4004 12 (UB n W V) (λ_=>UC (A9 n W V)) (λj=>j+1) Q i:=λi Q hi hQ=>by
  rw[FN]
  have l:Int.ofNat n=(n:Int):=rfl
  have g:Int.toNat i=j:=O
  rw[g]
  refine Zg (λh=>?_) λh=>?_
  ·have ha:(decide (0<=i)&&decide (i<Int.ofNat n))=true:=by simp only[bf,bn];omega
   refine cC _ _ ha (cC _ _ ha (Zl (λe=>?_) λe=>?_))
   ·have:A9 n W V=false:=by unfold A9;rw[List.all_eq_false];exact⟨j,List.mem_range.2 O,by simpa using e⟩
    rw[this];exact⟨rfl,trivial⟩
   ·exact cC _ _ (aq O O) (YG A ⟨bL _ _,Zf A (YG A ⟨bL _ _,hQ O e⟩)⟩)
  ·have:A9 n W V=true:=List.all_eq_true.2 λk a=>bW (f k (by have:=List.mem_range.1 a;omega))
   rw[this];trivial
 exact go (j:Int) _ A λb e=>⟨⟨b,λk a=>by by_cases h:k=j;exact h▸e;exact f k O⟩,O,rfl⟩
theorem Od{n:Nat}{W V:Nat->Int}(hn:n<=1000000):af PP II 16 [.ab n 1 (ae W),.ab n 1 (ae V)] (AH.blank 12) (.ret (.bool (A9 n W V)) (AH.blank 12)):=by
 refine bY (ks:=[]) (T:=[(4004,12,UB n W V 0,UC (A9 n W V))]) (λ_=>rfl) ?_
 rw[Oc]
 refine wA A ⟨FQ n W V hn,YG A ⟨bL _ _,YG A ⟨bL _ _,?_⟩⟩⟩
 cases A9 n W V<;>rfl
noncomputable def FR:aC PP II:=aC.pure 16
 (λX args a=>match args with
  |[.ab n 1 f,.ab m 1 g]=>X.ak (bA n f&&bA m g&&Nat.ble n 1000000&&Nat.beq n m) (a (.bool (A9 n (aM f) (aM g))))
  |_=>X.fail)
 λX sem hX args a h=>by
  split at h
  ·obtain⟨b,c⟩:=hX.ak _ _ h
   simp only[bf]at b
   obtain⟨⟨⟨a1,a2⟩,d⟩,a4⟩:=b
   cases dE a4
   exact⟨_,c,λ_=>rfl,λ_=>rfl,af.dA (Od (jX d)) (cy a1) (cy a2)⟩
  ·exact zR
theorem UH{a b c d e f:Int}(ha:aN .i64 a=true)(g:aN .i64 b=true)(h:aN .i64 c=true)(i:aN .i64 d=true)(j:aN .i64 e=true)(k:aN .i64 f=true):
  af PP II 37 [.agg [.int .i64 a,.int .i64 b,.int .i64 c,.int .i64 d,.int .i64 e,.int .i64 f]] (AH.blank 12) (.ret (.agg (aF (FO a b c d e f))) (AH.blank 12)):=by
 refine bY (ks:=[gF]) (T:=[]) (λσ=>cL σ _) ?_
 rw[UD]
 have q:=cj (c:=Int.tdiv c 4) (n:=4) O
 have r:=cj (c:=a) (n:=40) O
 have s:=cj (c:=d) (n:=40) O
 have t:=cj (c:=e) (n:=12) O
 have l:aN .i64 (av (Int.tdiv c 4) 4-1)=true:=aq O O
 have m:aN .i64 (Int.tdiv (av a 40) 10)=true:=mM (aq O O) O
 have o:aN .i64 (av d 40+av e 12)=true:=aq O O
 have t1:=mM ha (O:(0:Int)<40)
 have t2:=mM g (O:(0:Int)<3)
 have p:=mM h (O:(0:Int)<4)
 rw[ha,g,h,i,j,k,l,m,o,t1,t2,p]
 repeat' (first|exact A|refine cC _ _ A ?_|refine cC _ _ (bW A) ?_)
noncomputable def Dk:aC PP II:=aC.pure 37
 (λX args g=>match args with
  |[.agg [.int .i64 a,.int .i64 b,.int .i64 c,.int .i64 d,.int .i64 e,.int .i64 f]]=>X.ak (aN .i64 a&&aN .i64 b&&aN .i64 c&&aN .i64 d&&aN .i64 e&&aN .i64 f) (g (.agg (aF (FO a b c d e f))))
  |_=>X.fail)
 λX sem hX args g h=>by
  split at h
  ·obtain⟨i,j⟩:=hX.ak _ _ h
   simp only[bf]at i
   obtain⟨⟨⟨⟨⟨a1,a2⟩,k⟩,a4⟩,l⟩,m⟩:=i
   exact⟨_,j,λ_=>rfl,λ_=>rfl,UH a1 a2 k a4 l m⟩
  ·exact zR
end Go.Sx
end
section
set_option maxRecDepth 1000000
namespace Go.Sx
open Go
def fm(X:Nat->Nat->Int)(j:Nat):List AV:=[.int .i64 (X j 0),.int .i64 (X j 1),.int .i64 (X j 2),.int .i64 (X j 3),.int .i64 (X j 4),.int .i64 (X j 5)]
noncomputable def YZ(n:Nat)(X:Nat->Nat->Int)(m:Int->Nat)(G:Int->Nat->ay)(i:Int):St:={t:=Tr.ofList [(0,.ab n 6 (fm X)),(3,.own 12 (m i) 10),(4,.int .i64 i)],nt:=94,H:={n:=13,t:=Tr.ofList [(12,.rows (m i) 10 (λj=>aF (G i j)) (.ty 48))]},df:=[]}
noncomputable def Ya(n:Nat)(X:Nat->Nat->Int)(i:Int):St:={t:=Tr.ofList [(0,.ab n 6 (fm X)),(3,.aw),(4,.int .i64 i)],nt:=94,H:=AH.blank 12,df:=[]}
noncomputable def FT(m:Nat)(G:Nat->ay):GE:=.one (.x 0 {t:=Tr.ofList [(3,.own 12 m 10)],nt:=94,H:={n:=13,t:=Tr.ofList [(12,.rows m 10 (λj=>aF (G j)) (.ty 48))]},df:=[]})
noncomputable def Ki(n:Nat)(X:Nat->Nat->Int)(m:Nat)(G:Nat->ay)(i:Int)(x:ay)(j:Int):St:={t:=Tr.ofList [(0,.ab n 6 (fm X)),(3,.own 12 m 10),(4,.int .i64 i),(5,.ptr 13 0 0 0),(6,.int .i64 j)],nt:=94,H:={n:=14,t:=Tr.ofList [(12,.rows m 10 (λj=>aF (G j)) (.ty 48)),(13,.cells (aF x) (.ty 48))]},df:=[]}
noncomputable def Of(n:Nat)(X:Nat->Nat->Int)(m:Nat)(G:Nat->ay)(i:Int)(x:ay)(a:Int):GE:=.one (.x 2 (Ki n X m G i x a))
theorem W1(n:Nat)(X:Nat->Nat->Int)(m:Nat)(G:Nat->ay)(i:Int)(x:ay)(a:Int)(j:Int)(Q:Prop):(kr [] [] 12 7034 14 (Ki n X m G i x) (λ_=>Of n X m G i x a) (λj=>j+1) Q j)=(let c:=(zyI x.t (zyI x.s (zyI x.v (zyI x.w (zyI x.o (zyI x.p (zyI x.d (zyI x.l (zyI x.h (zyI x.b (zyN m ((an m (λj=>aF (G j)) λj=>aF (G j))/\zyN m (zyN n (zyR n (fm X) (zyI i (aH j a True))))))))))))))));let e:=(B (aN .i64 (j+1)) (zyI x.t (zyI x.s (zyI x.v (zyI x.w (zyI x.o (zyI x.p (zyI x.d (zyI x.l (zyI x.h (zyI x.b (zyN m ((an m (λj=>aF (G j)) λj=>aF (G j))/\zyN m (zyN n (zyR n (fm X) (zyI i (zyI (j+1) Q)))))))))))))))));(ah (decide (j<Int.ofNat m)) (B (decide (0<=j)&&decide (j<Int.ofNat m)) (B (decide (j.toNat<m)) (ah (decide (ay.t (G j.toNat)<x.t)) e (B (decide (0<=j)&&decide (j<Int.ofNat m)) (B (decide (j.toNat<m)) (ah (decide (ay.t (G j.toNat)=x.t)) (B (decide (0<=j)&&decide (j<Int.ofNat m)) (B (decide (j.toNat<m)) (ah (decide (ay.s (G j.toNat)<x.s)) e c))) c)))))) c)):=U
noncomputable def sF(n:Nat)(X:Nat->Nat->Int)(m:Int->Nat)(G:Int->Nat->ay)(p:Bool×Int):St:=match p.1 with
 |true=>YZ n X m G p.2
 |false=>Ya n X p.2
theorem Hk(n:Nat)(X:Nat->Nat->Int)(m:Int->Nat)(G:Int->Nat->ay)(x:ay)(a:Int)(c:Nat)(Z:Nat->ay)(i:Int)(Q:Prop):(kr (ι:=Bool×Int) [Dk] [(7034,14,Ki n X (m i) (G i) i x 0,Of n X (m i) (G i) i x a)] 12 3008 12 (sF n X m G) (λ_=>FT c Z) (λp=>(true,p.2+1)) Q (true,i))=(let g:=(B (decide (0<=a)&&decide (a<=a)&&decide (a<=Int.ofNat (m i))&&decide (0<m i)) (B (decide (0<=a)&&decide (a<=Int.ofNat (m i))&&decide (Int.ofNat (m i)<=Int.ofNat (m i))&&decide (0<m i)) (B (decide (a.toNat+Int.toNat (Int.ofNat (m i)-a)<=m i)&&true&&decide ((1+Int.toNat (Int.ofNat (m i)-a))*80<=140737488355328)&&true) (ah (decide (Int.toNat (Int.ofNat (m i)-a)=0)) (B (decide (0<=a)&&decide (a<=a)&&decide (a<=Int.ofNat (m i))&&decide (0<m i)) (B (decide (Int.toNat (a-0)=Int.toNat (a-0))&&decide (some (Int.toNat (a-0))=some (Int.toNat (a-0)))&&true) (B (decide (0+Int.toNat (a-0)<=m i)&&true&&true&&decide ((Int.toNat (a-0)+1)*80<=140737488355328)&&true) (ah (decide (Int.toNat (a-0)=Int.toNat (a-0))) (B (aN .i64 (i+1)) (ax (Int.toNat (a-0)+1) (m (i+1)) ((an (Int.toNat (a-0)+1) (λe=>bif Nat.blt e (Int.toNat (a-0))then aF (G i (0+e))else List.take 10 (List.drop (0+(e-Int.toNat (a-0))*10) [AV.int .i64 x.t,AV.int .i64 x.s,AV.int .i64 x.v,AV.int .i64 x.w,AV.int .i64 x.o,AV.int .i64 x.p,AV.int .i64 x.d,AV.int .i64 x.l,AV.int .i64 x.h,AV.int .i64 x.b])) λj=>aF (G (i+1) j))/\ax (Int.toNat (a-0)+1) (m (i+1)) (zyN n (zyR n (fm X) (zyI (i+1) Q)))))) (B (aN .i64 (i+1)) (ax (Int.toNat (a-0)+1) (m (i+1)) ((an (Int.toNat (a-0)+1) (λe=>bif Nat.blt e (Int.toNat (a-0))then aF (G i (0+e))else List.take 10 (List.drop (0+(e-Int.toNat (a-0))*10) [AV.int .i64 x.t,AV.int .i64 x.s,AV.int .i64 x.v,AV.int .i64 x.w,AV.int .i64 x.o,AV.int .i64 x.p,AV.int .i64 x.d,AV.int .i64 x.l,AV.int .i64 x.h,AV.int .i64 x.b])) λj=>aF (G (i+1) j))/\ax (Int.toNat (a-0)+1) (m (i+1)) (zyN n (zyR n (fm X) (zyI (i+1) Q)))))))))) (B (decide (0<=a)&&decide (a<=a)&&decide (a<=Int.ofNat (m i))&&decide (0<m i)) (B (decide (Int.toNat (a-0)=Int.toNat (a-0))&&decide (some (Int.toNat (a-0))=some (Int.toNat (a-0)))&&true) (B (decide (0+Int.toNat (a-0)<=m i)&&decide (1+Int.toNat (Int.ofNat (m i)-a)<=1+Int.toNat (Int.ofNat (m i)-a))&&true&&decide ((Int.toNat (a-0)+(1+Int.toNat (Int.ofNat (m i)-a)))*80<=140737488355328)&&true) (ah (decide (1+Int.toNat (Int.ofNat (m i)-a)=0)) (B (aN .i64 (i+1)) (ax (m (i+1)) 0 False)) (ah (decide (Int.toNat (a-0)=Int.toNat (a-0))) (B (aN .i64 (i+1)) (ax (Int.toNat (a-0)+(1+Int.toNat (Int.ofNat (m i)-a))) (m (i+1)) ((an (Int.toNat (a-0)+(1+Int.toNat (Int.ofNat (m i)-a))) (λe=>bif Nat.blt e (Int.toNat (a-0))then aF (G i (0+e))else bif Nat.blt (e-Int.toNat (a-0)) 1 then List.take 10 (List.drop (0+(e-Int.toNat (a-0))*10) [AV.int .i64 x.t,AV.int .i64 x.s,AV.int .i64 x.v,AV.int .i64 x.w,AV.int .i64 x.o,AV.int .i64 x.p,AV.int .i64 x.d,AV.int .i64 x.l,AV.int .i64 x.h,AV.int .i64 x.b])else aF (G i (a.toNat+(e-Int.toNat (a-0)-1)))) λj=>aF (G (i+1) j))/\ax (Int.toNat (a-0)+(1+Int.toNat (Int.ofNat (m i)-a))) (m (i+1)) (zyN n (zyR n (fm X) (zyI (i+1) Q)))))) (B (aN .i64 (i+1)) (ax (Int.toNat (a-0)+(1+Int.toNat (Int.ofNat (m i)-a))) (m (i+1)) ((an (Int.toNat (a-0)+(1+Int.toNat (Int.ofNat (m i)-a))) (λe=>bif Nat.blt e (Int.toNat (a-0))then aF (G i (0+e))else bif Nat.blt (e-Int.toNat (a-0)) 1 then List.take 10 (List.drop (0+(e-Int.toNat (a-0))*10) [AV.int .i64 x.t,AV.int .i64 x.s,AV.int .i64 x.v,AV.int .i64 x.w,AV.int .i64 x.o,AV.int .i64 x.p,AV.int .i64 x.d,AV.int .i64 x.l,AV.int .i64 x.h,AV.int .i64 x.b])else aF (G i (a.toNat+(e-Int.toNat (a-0)-1)))) λj=>aF (G (i+1) j))/\ax (Int.toNat (a-0)+(1+Int.toNat (Int.ofNat (m i)-a))) (m (i+1)) (zyN n (zyR n (fm X) (zyI (i+1) Q)))))))))))))));let f:=(FO (X i.toNat 0) (X i.toNat 1) (X i.toNat 2) (X i.toNat 3) (X i.toNat 4) (X i.toNat 5));let k:=(ax (m i) c ((an (m i) (λj=>aF (G i j)) λj=>aF (Z j))/\ax (m i) c True));let q:=(decide (0<=a)&&decide (a<Int.ofNat (m i)));(ah (decide (i<Int.ofNat n)) (ah (decide (i<24)) (B (decide (0<=i)&&decide (i<Int.ofNat n)) (B (aN .i64 (X i.toNat 0)&&aN .i64 (X i.toNat 1)&&aN .i64 (X i.toNat 2)&&aN .i64 (X i.toNat 3)&&aN .i64 (X i.toNat 4)&&aN .i64 (X i.toNat 5)) (aE PP II false (aD II 12 7034) 14 (Ki n X (m i) (G i) i x 0) (Of n X (m i) (G i) i x a)/\aH (ay.t f) x.t (aH (ay.s f) x.s (aH (ay.v f) x.v (aH (ay.w f) x.w (aH (ay.o f) x.o (aH (ay.p f) x.p (aH (ay.d f) x.d (aH (ay.l f) x.l (aH (ay.h f) x.h (aH (ay.b f) x.b (zyN (m i) ((an (m i) (λj=>aF (G i j)) λj=>aF (G i j))/\zyN (m i) (zyN n (zyR n (fm X) (zyI i (ah (decide (a<Int.ofNat (m i))) (B q (B (decide (a.toNat<m i)) (ah (decide (ay.t (G i a.toNat)=x.t)) (B q (B (decide (a.toNat<m i)) (ah (decide (ay.s (G i a.toNat)=x.s)) (B (aN .i64 (i+1)) (ax (m i) (m (i+1)) ((an (m i) (λj=>aF (G i j)) λj=>aF (G (i+1) j))/\ax (m i) (m (i+1)) (zyN n (zyR n (fm X) (zyI (i+1) Q)))))) g))) g))) g)))))))))))))))))) k) k)):=U
theorem Dn(n:Nat)(X:Nat->Nat->Int)(m:Int->Nat)(G:Int->Nat->ay)(a:Nat)(Z:Nat->ay)(i:Int)(Q:Prop):(kr (ι:=Bool×Int) [Dk] [] 12 3008 12 (sF n X m G) (λ_=>FT a Z) (λp=>(true,p.2+1)) Q (false,i))=(let c:=(FO (X i.toNat 0) (X i.toNat 1) (X i.toNat 2) (X i.toNat 3) (X i.toNat 4) (X i.toNat 5));(ah (decide (i<Int.ofNat n)) (ah (decide (i<24)) (B (decide (0<=i)&&decide (i<Int.ofNat n)) (B (aN .i64 (X i.toNat 0)&&aN .i64 (X i.toNat 1)&&aN .i64 (X i.toNat 2)&&aN .i64 (X i.toNat 3)&&aN .i64 (X i.toNat 4)&&aN .i64 (X i.toNat 5)) (B (aN .i64 (i+1)) (ax 10 (m (i+1)*10) ((an (m (i+1)) (fW [AV.int .i64 (ay.t c),AV.int .i64 (ay.s c),AV.int .i64 (ay.v c),AV.int .i64 (ay.w c),AV.int .i64 (ay.o c),AV.int .i64 (ay.p c),AV.int .i64 (ay.d c),AV.int .i64 (ay.l c),AV.int .i64 (ay.h c),AV.int .i64 (ay.b c)] 10) λj=>aF (G (i+1) j))/\ax 1 (m (i+1)) (zyN n (zyR n (fm X) (zyI (i+1) Q)))))))) (ax a 0 (ax a 0 True))) (ax a 0 (ax a 0 True)))):=U
theorem W2(n:Nat)(X:Nat->Nat->Int)(m:Int->Nat)(G:Int->Nat->ay)(a:Nat)(Z:Nat->ay)(Q:AV->Prop):(kb [] [(3008,12,sF n X m G (false,0),FT a Z)] 12 [.ab n 6 (fm X)] Q)=(aE PP II false (aD II 12 3008) 12 (sF n X m G (false,0)) (FT a Z)/\zyN n (zyR n (fm X) (B ((List.all (List.range.loop a []) λi=>true)&&decide (a<=a)) (Q (AV.ab a 10 λj=>aF (Z j)))))):=U
end Go.Sx
end
section
set_option maxRecDepth 1000000
namespace Go.Sx
open Go
def JS(a b:ay):Bool:=decide (a.t<b.t)||(decide (a.t=b.t)&&decide (a.s<b.s))
def ku(x:ay)(G:Nat->ay)(m:Nat):Nat:=((List.range m).find? λk=>!JS (G k) x).getD m
theorem qO(x:ay)(G:Nat->ay)(m:Nat):ku x G m<=m/\(∀k,k<ku x G m->JS (G k) x=true)/\(ku x G m<m->JS (G (ku x G m)) x=false):=by
 unfold ku
 cases h:(List.range m).find? λk=>!JS (G k) x with
 |none=>
  rw[List.find?_range_eq_none]at h
  exact⟨dw _,λk a=>by have:=h k a;simpa using this,λa=>absurd a (HD _)⟩
 |some j=>
  rw[List.find?_range_eq_some]at h
  obtain⟨c,b,d⟩:=h
  have b:=List.mem_range.1 b
  exact⟨Nat.le_of_lt b,λk a=>by have:=d k a;simpa using this,λ_=>by show JS (G j) x=false;simpa using c⟩
def oV(a b:ay):Bool:=decide (a.t=b.t)&&decide (a.s=b.s)
def Ba(a:Nat)(x:ay)(G:Nat->ay)(j:Nat):ay:=if j<a then G j else if j=a then x else G (j-1)
def xk(x:ay)(S:Nat×(Nat->ay)):Nat×(Nat->ay):=
 bif Nat.blt (ku x S.2 S.1) S.1&&oV (S.2 (ku x S.2 S.1)) x then S else(S.1+1,Ba (ku x S.2 S.1) x S.2)
def fU(X:Nat->Nat->Int)(i:Nat):ay:=FO (X i 0) (X i 1) (X i 2) (X i 3) (X i 4) (X i 5)
def gp(X:Nat->Nat->Int):Nat->Nat×(Nat->ay)
 |0=>(0,λ_=>⟨0,0,0,0,0,0,0,0,0,0⟩)
 |i+1=>xk (fU X i) (gp X i)
def Bb(x y:ay):Prop:=x.t<y.t∨(x.t=y.t/\x.s<y.s)
theorem Q8{a b:ay}:JS a b=true↔Bb a b:=by
 unfold JS Bb
 simp only[Bool.or_eq_true,bf,bn]
theorem y9(x y:ay):lr x y<0↔Bb x y:=by
 unfold lr Bb U9 sP
 by_cases h1:x.t<y.t
 ·simp[h1]
 ·by_cases c:x.t>y.t
  ·simp[h1,c];omega
  ·have e:x.t=y.t:=by omega
   by_cases a:x.s<y.s
   ·simp[e,a]
   ·by_cases b:x.s>y.s
    ·simp[e,a,b]
    ·simp[e,a,b]
theorem zc{F:Nat->ay}:∀k,(∀j,j+1<=k->Bb (F j) (F (j+1)))->fL F k=true
 |0,_=>rfl
 |k+1,h=>by
  show(!decide (lr (F (k+1)) (F k)<0)&&fL F k)=true
  rw[zc k λj a=>h j O,Bool.and_true,Bool.not_eq_true',iK,y9]
  have:=h k (dw _)
  unfold Bb at this⊢
  omega
structure Good (m:Nat) (a:Nat->ay):Prop where
 val:∀k,k<m->bB (a k)=true
 ord:∀k,k+1<m->Bb (a k) (a (k+1))
theorem Good.UI{m:Nat}{G:Nat->ay}(h:Good m G)(b:m<=400):cX m G=true:=by
 unfold cX
 rw[bW b,zc _ λj c=>h.ord j O,Bool.and_true,Bool.and_true]
 refine List.all_eq_true.2 λk a=>?_
 have a:=List.mem_range.1 a
 cases k with
 |zero=>unfold sQ;rw[h.val _ a];rfl
 |succ k=>
  show(bB (G (k+1))&& !decide (lr (G k) (G (k+1))>=0))=true
  rw[h.val _ a,Bool.true_and,Bool.not_eq_true',iK]
  have:=(y9 _ _).2 (h.ord k a)
  omega
theorem FU(X:Nat->Nat->Int)(i:Nat):bB (fU X i)=true:=by
 have p0:=cj (c:=X i 0) (n:=40) O
 have a:=cj (c:=Int.tdiv (X i 0) 40) (n:=3) O
 have b:=cj (c:=X i 1) (n:=3) O
 have d:=cj (c:=Int.tdiv (X i 1) 3) (n:=3) O
 have e:=cj (c:=X i 2) (n:=4) O
 have f:=cj (c:=Int.tdiv (X i 2) 4) (n:=4) O
 have g:=cj (c:=X i 3) (n:=40) O
 have h:=cj (c:=X i 4) (n:=12) O
 have j:=cj (c:=X i 5) (n:=40) O
 unfold fU FO bB
 simp only[bf,bn]
 and_intros<;>first|omega|trivial
theorem JT{x:ay}{S:Nat×(Nat->ay)}(hx:bB x=true)(h:Good S.1 S.2):Good (xk x S).1 (xk x S).2:=by
 obtain⟨g,d,b⟩:=qO x S.2 S.1
 unfold xk
 cases c:Nat.blt (ku x S.2 S.1) S.1&&oV (S.2 (ku x S.2 S.1)) x with
 |true=>exact h
 |false=>
  simp only[cond_false]
  generalize ku x S.2 S.1=a at*
  refine⟨λk e=>?_,λk e=>?_⟩
  ·simp only[Ba]
   split
   ·exact h.val k O
   ·split
    ·exact hx
    ·exact h.val _ O
  ·simp only[Ba]
   by_cases c1:k+1<a
   ·rw[if_pos O,if_pos c1];exact h.ord k O
   ·by_cases c2:k+1=a
    ·rw[if_pos O,if_neg c1,if_pos c2];exact Q8.1 (d k O)
    ·rw[if_neg (O:¬ k<a),if_neg c1,if_neg c2]
     by_cases c3:k=a
     ·rw[if_pos c3]
      have ha:a<S.1:=O
      have b:=b ha
      have f:Nat.blt a S.1=true:=by rw[Nat.blt_eq];exact ha
      rw[f,Bool.true_and]at c
      show Bb x (S.2 (k+1-1))
      rw[Nat.add_sub_cancel,c3]
      unfold JS at b
      unfold oV at c
      unfold Bb
      simp only[Bool.or_eq_false_iff,Bool.and_eq_false_iff,iK]at b c
      omega
     ·rw[if_neg c3]
      have:=h.ord (k-1) O
      rw[show k-1+1=k by omega]at this
      exact this
theorem zd(X:Nat->Nat->Int):∀i,Good (gp X i).1 (gp X i).2
 |0=>⟨λk a=>absurd a (lZ _),λk a=>absurd a (lZ _)⟩
 |i+1=>JT (FU X i) (zd X i)
theorem Bc(X:Nat->Nat->Int):∀i,(gp X i).1<=i/\(gp X i).1<=(gp X (i+1)).1/\0<(gp X (i+1)).1
 |i=>by
  have a:∀i,(gp X i).1<=(gp X (i+1)).1/\(gp X (i+1)).1<=(gp X i).1+1/\0<(gp X (i+1)).1:=λi=>by
   show(gp X i).1<=(xk (fU X i) (gp X i)).1/\(xk (fU X i) (gp X i)).1<=(gp X i).1+1/\0<(xk (fU X i) (gp X i)).1
   unfold xk
   cases b:Nat.blt (ku (fU X i) (gp X i).2 (gp X i).1) (gp X i).1&&oV ((gp X i).2 (ku (fU X i) (gp X i).2 (gp X i).1)) (fU X i)with
   |true=>
    rw[bf,Nat.blt_eq]at b
    simp only[cond_true];omega
   |false=>simp only[cond_false];omega
  have le:∀i,(gp X i).1<=i:=λi=>by
   induction i with
   |zero=>exact dw _
   |succ i c=>have:=a i;omega
  exact⟨le i,(a i).1,(a i).2.2⟩
theorem u6(n:Nat)(X:Nat->Nat->Int):an n (fm X) (fm X):=Zj λ_ _=>⟨⟨rfl,rfl⟩,⟨rfl,rfl⟩,⟨rfl,rfl⟩,⟨rfl,rfl⟩,⟨rfl,rfl⟩,⟨rfl,rfl⟩,trivial⟩
theorem Bd(m:Nat)(G:Nat->ay):an m (λj=>aF (G j)) λj=>aF (G j):=Zj λ_ _=>cL _ _
theorem Og(n:Nat)(X:Nat->Nat->Int)(m:Nat)(G:Nat->ay)(i:Int)(x:ay)(r:m<=1000):aE PP II false (aD II 12 7034) 14 (Ki n X m G i x 0) (Of n X m G i x (ku x G m:Nat)):=by
 obtain⟨s,l,f⟩:=qO x G m
 generalize ku x G m=a at*
 have key:=aE.of (ι:=Nat) iw [] (bm PP II []) 1000 (c:=aD II 12 7034) (ir:=false) 14 (λj=>j<=a) (λj=>Ki n X m G i x (j:Int)) (λ_=>Of n X m G i x (a:Int)) (λj=>m-j) (λj=>j+1) 0 A (Nat.zero_le _) λj g=>?_
 ·exact key
 have g:j<=a:=g
 have go:∀(J:Int)(Q:Prop),J=(j:Int)->(j<a->j<m->Q)->kr [] [] 12 7034 14 (Ki n X m G i x) (λ_=>Of n X m G i x (a:Int)) (λj=>j+1) Q J:=λJ Q t hQ=>by
  rw[W1]
  have u:Int.ofNat m=(m:Int):=rfl
  have o:Int.toNat J=j:=O
  rw[o]
  have fr:=Bd m G
  have xr:=u6 n X
  have out:∀{Z:Prop},j=a->(J=(a:Int)->Z)->Z:=λe h=>h O
  refine Zg (λh=>?_) λh=>?_
  ·have ha:(decide (0<=J)&&decide (J<Int.ofNat m))=true:=by simp only[bf,bn];omega
   have d:decide (j<m)=true:=bW O
   refine cC _ _ ha (cC _ _ d (Zg (λb=>?_) λb=>cC _ _ ha (cC _ _ d (Zg (λk=>cC _ _ ha (cC _ _ d (Zg (λp=>?_) λp=>?_))) λk=>?_))))
   ·have:j<a:=by
     by_cases e:j=a
     ·have:=f O
      rw[<-e]at this
      unfold JS at this
      simp only[Bool.or_eq_false_iff,iK]at this
      exact absurd b this.1
     ·omega
    have q:=hQ this O
    refine cC _ _ (aq O O) ?_
    exact ZI
   ·have:j<a:=by
     by_cases e:j=a
     ·have:=f O
      rw[<-e]at this
      unfold JS at this
      simp only[Bool.or_eq_false_iff,Bool.and_eq_false_iff,iK]at this
      omega
     ·omega
    have q:=hQ this O
    refine cC _ _ (aq O O) ?_
    exact ZI
   all_goals
    have e:J=(a:Int):=by
     by_cases e:j=a
     ·omega
     ·have:=l j O
      unfold JS at this
      simp only[Bool.or_eq_true,bf,bn]at this
      omega
    exact ZJ
  ·have e:J=(a:Int):=by omega
   exact ZJ
 exact go (j:Int) _ A λb k=>⟨b,O,rfl⟩
end Go.Sx
end
section
set_option maxRecDepth 1000000
namespace Go.Sx
open Go
def mX(X:Nat->Nat->Int)(i:Int):Nat:=(gp X i.toNat).1
def gX(X:Nat->Nat->Int)(i:Int):Nat->ay:=(gp X i.toNat).2
def Yb(X:Nat->Nat->Int)(i:Nat):Bool:=aN .i64 (X i 0)&&aN .i64 (X i 1)&&aN .i64 (X i 2)&&aN .i64 (X i 3)&&aN .i64 (X i 4)&&aN .i64 (X i 5)
theorem Dp{m a:Nat}(x:ay)(G:Nat->ay)(b:Nat)(c:b<=m+1):an b (λi=>bif Nat.blt i a then aF (G (0+i))else bif Nat.blt (i-a) 1 then List.take 10 (List.drop (0+(i-a)*10) (aF x))else aF (G (a+(i-a-1)))) λj=>aF (Ba a x G j):=λi hi σ=>by
 show bt.le σ (bif Nat.blt i a then aF (G (0+i))else bif Nat.blt (i-a) 1 then List.take 10 (List.drop (0+(i-a)*10) (aF x))else aF (G (a+(i-a-1)))) (aF (Ba a x G i))
 unfold Ba
 by_cases h:i<a
 ·rw[eV h,if_pos h,cond_true,Nat.zero_add];exact cL _ _
 ·rw[js h,if_neg h,cond_false]
  by_cases e:i=a
  ·rw[eV (O:i-a<1),if_pos e,cond_true,e,Nat.sub_self];exact cL _ _
  ·rw[js (O:¬ i-a<1),if_neg e,cond_false,show a+(i-a-1)=i-1 by omega];exact cL _ _
theorem JU{a:Nat}(x:ay)(G:Nat->ay):an (a+1) (λi=>bif Nat.blt i a then aF (G (0+i))else List.take 10 (List.drop (0+(i-a)*10) (aF x))) λj=>aF (Ba a x G j):=λi hi σ=>by
 show bt.le σ (bif Nat.blt i a then aF (G (0+i))else List.take 10 (List.drop (0+(i-a)*10) (aF x))) (aF (Ba a x G i))
 unfold Ba
 by_cases h:i<a
 ·rw[eV h,if_pos h,cond_true,Nat.zero_add];exact cL _ _
 ·rw[js h,if_neg h,cond_false,if_pos (O:i=a),show i-a=0 by omega];exact cL _ _
theorem Oh(n:Nat)(X:Nat->Nat->Int)(b:Nat)(Z:Nat->ay)(i:Int)(k:Nat)(hi:i=(k:Int))(P:k<n)(J:k<24)(R:0<k)(hX:Yb X k=true)(Q:Prop)(hQ:Q):
  kr (ι:=Bool×Int) [Dk] [(7034,14,Ki n X (mX X i) (gX X i) i (fU X k) 0,Of n X (mX X i) (gX X i) i (fU X k) (ku (fU X k) (gX X i) (mX X i):Nat))] 12 3008 12 (sF n X (mX X) (gX X)) (λ_=>FT b Z) (λp=>(true,p.2+1)) Q (true,i):=by
 rw[Hk]
 have S:Int.ofNat n=(n:Int):=rfl
 have l:Int.toNat i=k:=O
 have v:Int.toNat (i+1)=k+1:=O
 have w:mX X i=(gp X k).1:=by unfold mX;rw[l]
 have x:gX X i=(gp X k).2:=by unfold gX;rw[l]
 have f:mX X (i+1)=(xk (fU X k) (gp X k)).1:=by unfold mX;rw[v];rfl
 have g:gX X (i+1)=(xk (fU X k) (gp X k)).2:=by unfold gX;rw[v];rfl
 obtain⟨l1,_,_⟩:=Bc X k
 have y:0<(gp X k).1:=by
  obtain⟨j,rfl⟩:∃j,k=j+1:=⟨k-1,O⟩
  exact(Bc X j).2.2
 rw[l,w,x,f,g]
 obtain⟨C,D,E⟩:=qO (fU X k) (gp X k).2 (gp X k).1
 have lp:=Og n X (gp X k).1 (gp X k).2 i (fU X k) O
 unfold xk
 clear w x f g
 revert l1 y C D E lp
 obtain⟨m,G⟩:=gp X k
 show m<=k->0<m->ku (fU X k) G m<=m->(∀j,j<ku (fU X k) G m->JS (G j) (fU X k)=true)->(ku (fU X k) G m<m->JS (G (ku (fU X k) G m)) (fU X k)=false)->aE PP II false (aD II 12 7034) 14 (Ki n X m G i (fU X k) 0) (Of n X m G i (fU X k) (ku (fU X k) G m:Nat))->_
 dsimp only
 generalize ku (fU X k) G m=a
 intro l1 y C D E lp
 have T:Int.ofNat m=(m:Int):=rfl
 have fr:=Bd m G
 have xr:=u6 n X
 have c:aN .i64 (i+1)=true:=aq O O
 have d:(decide (0<=(a:Int))&&decide ((a:Int)<=(a:Int))&&decide ((a:Int)<=Int.ofNat m)&&decide (0<m))=true:=by simp only[bf,bn];omega
 have o:(decide (0<=(a:Int))&&decide ((a:Int)<=Int.ofNat m)&&decide (Int.ofNat m<=Int.ofNat m)&&decide (0<m))=true:=by simp only[bf,bn];omega
 have t1:Int.toNat (a:Int)=a:=O
 have t2:Int.toNat (Int.ofNat m-(a:Int))=m-a:=O
 have K:Int.toNat ((a:Int)-0)=a:=O
 rw[t1,t2,K]
 have q:(decide (a+(m-a)<=m)&&true&&decide ((1+(m-a))*80<=140737488355328)&&true)=true:=by simp only[bf,bn,and_true];omega
 have e:a+(1+(m-a))=m+1:=O
 have r:(decide (a=a)&&decide (some a=some a)&&true)=true:=zA
 have L:(decide (0+a<=m)&&true&&true&&decide ((a+1)*80<=140737488355328)&&true)=true:=by simp only[bf,bn,and_true];omega
 have F:(decide (0+a<=m)&&decide (1+(m-a)<=1+(m-a))&&true&&decide ((a+(1+(m-a)))*80<=140737488355328)&&true)=true:=by simp only[bf,bn,and_true];omega
 have N:FO (X k 0) (X k 1) (X k 2) (X k 3) (X k 4) (X k 5)=fU X k:=rfl
 rw[N]
 have s:(aN .i64 (X k 0)&&aN .i64 (X k 1)&&aN .i64 (X k 2)&&aN .i64 (X k 3)&&aN .i64 (X k 4)&&aN .i64 (X k 5))=true:=hX
 have ha:(decide (0<=i)&&decide (i<Int.ofNat n))=true:=by simp only[bf,bn];omega
 refine Zg (λ_=>Zg (λ_=>cC _ _ ha (cC _ _ s ⟨lp,?_⟩)) λh=>absurd h O) λh=>absurd h O
 repeat' (with_reducible first|refine Zf A ?_|refine YG A ?_|refine And.intro ?_ ?_|exact fr|exact xr)
 refine Zg (λh=>?_) λh=>?_
 ·have H:(decide (0<=(a:Int))&&decide ((a:Int)<Int.ofNat m))=true:=by simp only[bf,bn];omega
  have I:decide (a<m)=true:=bW O
  refine cC _ _ H (cC _ _ I (Zg (λt=>cC _ _ H (cC _ _ I (Zg (λu=>?_) λu=>?_))) λt=>?_))
  ·rw[show(Nat.blt a m&&oV (G a) (fU X k))=true by rw[eV (O:a<m)];unfold oV;rw[bW t,bW u];rfl,cond_true]
   refine cC _ _ c ?_
   repeat' (first|exact hQ|with_reducible refine Zf A ?_|with_reducible refine YG A ?_|with_reducible refine And.intro ?_ ?_|with_reducible exact fr|with_reducible exact xr)
  ·rw[show(Nat.blt a m&&oV (G a) (fU X k))=false by unfold oV;rw[nZ u,Bool.and_false,Bool.and_false],cond_false]
   refine cC _ _ d (cC _ _ o (cC _ _ q (Zg (λh=>absurd h O) λ_=>?_)))
   refine cC _ _ d (cC _ _ r (cC _ _ F (Zg (λh=>absurd h O) λ_=>Zg (λ_=>cC _ _ c ?_) λh=>absurd A h)))
   exact YG e ⟨Dp _ _ _ (Nat.le_of_eq e),YG e (YG A ⟨xr,Zf A hQ⟩)⟩
  ·rw[show(Nat.blt a m&&oV (G a) (fU X k))=false by unfold oV;rw[nZ t,Bool.false_and,Bool.and_false],cond_false]
   refine cC _ _ d (cC _ _ o (cC _ _ q (Zg (λh=>absurd h O) λ_=>?_)))
   refine cC _ _ d (cC _ _ r (cC _ _ F (Zg (λh=>absurd h O) λ_=>Zg (λ_=>cC _ _ c ?_) λh=>absurd A h)))
   exact YG e ⟨Dp _ _ _ (Nat.le_of_eq e),YG e (YG A ⟨xr,Zf A hQ⟩)⟩
 ·have:a=m:=by omega
  subst this
  rw[show(Nat.blt a a&&oV (G a) (fU X k))=false by rw[js (HD a)];rfl,cond_false]
  refine cC _ _ d (cC _ _ o (cC _ _ q (Zg (λ_=>?_) λh=>absurd (Nat.sub_self a) h)))
  refine cC _ _ d (cC _ _ r (cC _ _ L (Zg (λ_=>cC _ _ c ?_) λh=>absurd A h)))
  exact YG A ⟨JU _ _,YG A (YG A ⟨xr,Zf A hQ⟩)⟩
theorem UJ(n:Nat)(X:Nat->Nat->Int)(x:ay)(a:Int)(i:Int)(k:Nat)(hi:i=(k:Int))(c :¬ (k<n/\k<24))(Q:Prop):
  kr (ι:=Bool×Int) [Dk] [(7034,14,Ki n X (mX X i) (gX X i) i x 0,Of n X (mX X i) (gX X i) i x a)] 12 3008 12 (sF n X (mX X) (gX X)) (λ_=>FT (mX X i) (gX X i)) (λp=>(true,p.2+1)) Q (true,i):=by
 rw[Hk]
 have d:Int.ofNat n=(n:Int):=rfl
 have fr:=Bd (mX X i) (gX X i)
 have b:ax (mX X i) (mX X i) ((an (mX X i) (λj=>aF (gX X i j)) λj=>aF (gX X i j))/\ax (mX X i) (mX X i) True):=YG A ⟨fr,YG A trivial⟩
 exact Zg (λh=>Zg (λe=>absurd ⟨O,O⟩ c) λ_=>b) λ_=>b
theorem JV(n:Nat)(X:Nat->Nat->Int)(a:Nat)(Z:Nat->ay)(i:Int)(hi:i=0)(hn:0<n)(hX:Yb X 0=true)(Q:Prop)(hQ:Q):
  kr (ι:=Bool×Int) [Dk] [] 12 3008 12 (sF n X (mX X) (gX X)) (λ_=>FT a Z) (λp=>(true,p.2+1)) Q (false,i):=by
 rw[Dn]
 subst hi
 have e:Int.ofNat n=(n:Int):=rfl
 have xr:=u6 n X
 have d:Int.toNat 0=0:=rfl
 rw[d]
 have b:(aN .i64 (X 0 0)&&aN .i64 (X 0 1)&&aN .i64 (X 0 2)&&aN .i64 (X 0 3)&&aN .i64 (X 0 4)&&aN .i64 (X 0 5))=true:=hX
 have c:mX X (0+1)=1:=rfl
 have ha:(decide ((0:Int)<=0)&&decide (0<Int.ofNat n))=true:=by simp only[bf,bn];omega
 rw[c]
 refine Zg (λ_=>Zg (λ_=>cC _ _ ha (cC _ _ b (cC _ _ A (YG A ⟨λj f σ=>?_,YG A (YG A ⟨xr,Zf A hQ⟩)⟩)))) λh=>absurd h O) λh=>absurd h O
 have:j=0:=O
 subst this
 exact cL σ (fU X 0)
theorem Q9(n:Nat)(X:Nat->Nat->Int)(Z:Nat->ay)(i:Int)(hi:i=0)(hn:n=0)(Q:Prop):
  kr (ι:=Bool×Int) [Dk] [] 12 3008 12 (sF n X (mX X) (gX X)) (λ_=>FT 0 Z) (λp=>(true,p.2+1)) Q (false,i):=by
 rw[Dn]
 subst hi hn
 exact Zg (λh=>absurd h zC) λ_=>YG A (YG A trivial)
def mZ(n:Nat)(X:Nat->Nat->Int):Nat:=(gp X (min n 24)).1
def oW(n:Nat)(X:Nat->Nat->Int):Nat->ay:=(gp X (min n 24)).2
theorem Ra(n:Nat)(X:Nat->Nat->Int):mZ n X<=24:=Nat.le_trans (Bc X _).1 (Nat.min_le_right _ _)
theorem JW(n:Nat)(X:Nat->Nat->Int):cX (mZ n X) (oW n X)=true:=(zd X _).UI (by have:=Ra n X;unfold mZ at this;omega)
theorem K5{n:Nat}{X:Nat->Nat->Int}(hX:∀j,j<n->Yb X j=true):
  aE PP II false (aD II 12 3008) 12 (sF n X (mX X) (gX X) (false,0)) (FT (mZ n X) (oW n X)):=by
 have l:((min n 24:Nat):Int).toNat=min n 24:=O
 have key:=aE.Vk (ι:=Bool×Int) iw [Dk] 1000 (λp=>match p.1 with
   |true=>[(7034,14,Ki n X (mX X p.2) (gX X p.2) p.2 (fU X p.2.toNat) 0,Of n X (mX X p.2) (gX X p.2) p.2 (fU X p.2.toNat) (ku (fU X p.2.toNat) (gX X p.2) (mX X p.2):Nat))]
   |false=>[]) (c:=aD II 12 3008) (ir:=false) 12 (λp=>match p.1 with
   |true=> ∃k:Nat,p.2=(k:Int)/\0<k/\k<=min n 24
   |false=>p.2=0) (sF n X (mX X) (gX X)) (λ_=>FT (mZ n X) (oW n X)) (λp=>match p.1 with
   |true=>min n 24-p.2.toNat
   |false=>min n 24+1) (λp=>(true,p.2+1)) (false,0) A A λp a=>?_
 rotate_left
 ·obtain⟨b,i⟩:=p
  cases b with
  |true=>
   obtain⟨k,d,f,m⟩:=a
   have d:i=(k:Int):=d
   have e:i.toNat=k:=O
   have o:(i+1).toNat=k+1:=O
   by_cases g:k<min n 24
   ·have:=Oh n X (mZ n X) (oW n X) i k d O O f (hX k O) ((∃k:Nat,i+1=(k:Int)/\0<k/\k<=min n 24)/\min n 24-(i+1).toNat<min n 24-i.toNat/\(FT (mZ n X) (oW n X)).pick=(FT (mZ n X) (oW n X)).pick) ⟨⟨k+1,O,O,O⟩,O,rfl⟩
    rw[<-e]at this
    exact this
   ·have:min n 24=k:=by omega
    have h:=UJ n X (fU X i.toNat) (ku (fU X i.toNat) (gX X i) (mX X i):Nat) i k d O ((∃k:Nat,i+1=(k:Int)/\0<k/\k<=min n 24)/\min n 24-(i+1).toNat<min n 24-i.toNat/\(FT (mZ n X) (oW n X)).pick=(FT (mZ n X) (oW n X)).pick)
    have a1:mX X i=mZ n X:=by unfold mX mZ;rw[e,this]
    have a2:gX X i=oW n X:=by unfold gX oW;rw[e,this]
    rw[a1,a2]at h
    show kr (ι:=Bool×Int) [Dk] [(7034,14,Ki n X (mX X i) (gX X i) i (fU X i.toNat) 0,Of n X (mX X i) (gX X i) i (fU X i.toNat) (ku (fU X i.toNat) (gX X i) (mX X i):Nat))] 12 3008 12 (sF n X (mX X) (gX X)) (λ_=>FT (mZ n X) (oW n X)) (λp=>(true,p.2+1)) _ (true,i)
    rw[a1,a2]
    exact h
  |false=>
   have a:i=0:=a
   by_cases hn:0<n
   ·exact JV n X _ _ i a hn (hX 0 hn) _ ⟨⟨1,by show i+1=1;omega,O,O⟩,by show min n 24-(i+1).toNat<min n 24+1;omega,rfl⟩
   ·have hn:n=0:=by omega
    have:mZ n X=0:=by subst hn;rfl
    rw[this]
    exact Q9 n X _ i a hn _
 exact key
theorem Dq{n:Nat}{X:Nat->Nat->Int}(hX:∀j,j<n->Yb X j=true):
  af PP II 12 [.ab n 6 (fm X)] (AH.blank 12) (.ret (cm (mZ n X) (oW n X)) (AH.blank 12)):=by
 refine bY (ks:=[]) (T:=[(3008,12,sF n X (mX X) (gX X) (false,0),FT (mZ n X) (oW n X))]) (λσ=>?_) ?_
 ·exact⟨rfl,rfl,λi _=>cL _ _⟩
 rw[W2]
 refine⟨K5 hX,YG A ⟨u6 n X,cC _ _ ?_ ?_⟩⟩
 ·rw[bW (dw _),Bool.and_true]
  exact List.all_eq_true.2 λ_ _=>rfl
 ·rfl
end Go.Sx
namespace Go.Sx
open Go
theorem u7{cs:List AV}(h:oG 6 cs=true):cs=[.int .i64 (bV cs 0),.int .i64 (bV cs 1),.int .i64 (bV cs 2),.int .i64 (bV cs 3),.int .i64 (bV cs 4),.int .i64 (bV cs 5)]/\(aN .i64 (bV cs 0)&&aN .i64 (bV cs 1)&&aN .i64 (bV cs 2)&&aN .i64 (bV cs 3)&&aN .i64 (bV cs 4)&&aN .i64 (bV cs 5))=true:=by
 obtain⟨e,b⟩:=pC 6 cs h
 obtain⟨a0,f⟩:=b 0 O
 obtain⟨a1,g⟩:=b 1 O
 obtain⟨a2,i⟩:=b 2 O
 obtain⟨c,j⟩:=b 3 O
 obtain⟨a4,k⟩:=b 4 O
 obtain⟨d,l⟩:=b 5 O
 refine⟨?_,by rw[f,g,i,j,k,l];rfl⟩
 match cs,e with
 |[x,y,a,u,v,w],_=>
  simp only[List.getElem?_cons_zero,List.getElem?_cons_succ,fE]at a0 a1 a2 c a4 d
  rw[<-a0,<-a1,<-a2,<-c,<-a4,<-d]
end Go.Sx
end
section
set_option maxRecDepth 1000000
namespace Go.Sx
open Go
end Go.Sx
end
section
set_option maxRecDepth 1000000
namespace Go.Sx
open Go
def oc(q:Query)(F:Nat->ay)(k:Nat)(a:bj):Prop := ∀j,j<a.m->∃f:Nat,f<k/\a.T j=(f:Int)/\gk q (F f)=true/\a.L j=kR q (F f)/\a.G j=lJ q (F f)/\a.C j=Br q (F f)
theorem yD(q:Query)(F:Nat->ay):∀i j,j<(aV q F i).length->oc q F i (aK (aV q F i) j)
 |0,j,b=>absurd b (by simp[aV])
 |i+1,l,hl=>by
  have c:=yD q F i
  have up:∀j,j<(aV q F i).length->oc q F (i+1) (aK (aV q F i) j):=λj b a ha=>by
   obtain⟨f,g,d⟩:=c j b a ha
   exact⟨f,O,d⟩
  revert hl
  show l<(km q (aV q F i) i (F i)).length->oc q F (i+1) (aK (km q (aV q F i) i (F i)) l)
  unfold km
  cases hp:gk q (F i)with
  |false=>exact up l
  |true=>
   simp only[cond_true]
   split
   ·rename_i j b
    obtain⟨b,_⟩:=lF b
    intro hl
    rw[List.length_set]at hl
    rw[gg b]
    by_cases h:l=j
    ·rw[if_pos h]
     intro a ha
     have ha:a<(aK (aV q F i) j).m+1:=ha
     show ∃f:Nat,f<i+1/\gV _ _ _ a=(f:Int)/\gk q (F f)=true/\gV _ _ _ a=_/\gV _ _ _ a=_/\uj _ _ _ a=_
     unfold gV uj
     by_cases e:a=(aK (aV q F i) j).m
     ·simp only[if_pos e];exact⟨i,O,rfl,hp,rfl,rfl,rfl⟩
     ·simp only[if_neg e];exact up j b a O
    ·rw[if_neg h];exact up l hl
   ·intro hl
    simp only[List.length_append,List.length_cons,List.length_nil]at hl
    rw[gh]
    by_cases h:l=(aV q F i).length
    ·rw[if_pos h]
     intro a ha
     exact⟨i,O,rfl,hp,rfl,rfl,rfl⟩
    ·rw[if_neg h];exact up l O
theorem Ho(q:Query)(F:Nat->ay)(k:Nat){i:Nat}(hi:i<(aV q F k).length):oc q F k (og q (aV q F k) i):=
 yD q F k _ (u4 q.ng (aV q F k).length (fj q.ng (aV q F k)) hi)
theorem S0(n g:Nat)(X:Nat->bj):an n (qN g X) (qN g X):=λi _ σ=>⟨⟨⟨⟨rfl,rfl,λj _=>jw _ _ j⟩,⟨rfl,rfl,λj _=>kS _ _ _ _ j⟩,⟨rfl,rfl,λj _=>jw _ _ j⟩,trivial⟩,rfl⟩,trivial⟩
end Go.Sx
end
