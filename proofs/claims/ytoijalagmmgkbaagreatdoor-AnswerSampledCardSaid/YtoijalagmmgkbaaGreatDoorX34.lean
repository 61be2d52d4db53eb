/- Lemmas, part 34. -/
import Derived.Test.YtoijalagmmgkbaaGreatDoorX33
set_option linter.all false
set_option linter.defProp false
set_option maxRecDepth 1000000
namespace Go.Sx
open Go
open Int renaming toNat->M,ofNat->b_
open Nat renaming blt->z,ble->a_,gcd->g_,mul_pos->n_,div_le_self->o_,le_trans->s_,mul_zero->t_,sub_le->u_
open Go.IntKind renaming i64->c_
open Decidable renaming decide->d_
open AV renaming int->e_,str->f_,qP->l_,agg->m_
open List renaming take->h_,drop->i_,beq->k_,range->p_,all->r_
open Bool renaming and_self->j_
noncomputable section
def oc(q:Query)(F:Nat->ay)(k:Nat)(Y1:bj):Prop := ∀j,j<Y1.m->∃f:Nat,f<k/\Y1.T j=(f:Int)/\gk q (F f)=true/\Y1.L j=kR q (F f)/\Y1.G j=lJ q (F f)/\Y1.C j=Br q (F f)
def yD(q:Query)(F:Nat->ay):∀i j,j<(aV q F i).length->oc q F i (aK (aV q F i) j)
 |0,j,b=>absurd b (by simp[aV])
 |i+1,l,hl=>by
  have c:=yD q F i
  have up:∀j,j<(aV q F i).length->oc q F (i+1) (aK (aV q F i) j):=λj b a ha=>by
   obtain⟨f,g,d⟩:=c j b a ha
   exact⟨f,O,d⟩
  revert hl
  show l<(km q (aV q F i) i (F i)).length->oc q F (i+1) (aK (km q (aV q F i) i (F i)) l)
  unfold km
  cases hp:gk q (F i)with
  |false=>exact up l
  |true=>
   simp only[cond_true]
   split
   ·rename_i j b
    obtain⟨b,_⟩:=lF b
    intro hl
    rw[List.length_set]at hl
    rw[gg b]
    by_cases h:l=j
    ·rw[if_pos h]
     intro a ha
     have ha:a<(aK (aV q F i) j).m+1:=ha
     show ∃f:Nat,f<i+1/\gV _ _ _ a=(f:Int)/\gk q (F f)=true/\gV _ _ _ a=_/\gV _ _ _ a=_/\uj _ _ _ a=_
     unfold gV uj
     by_cases e:a=(aK (aV q F i) j).m
     ·simp only[if_pos e];exact⟨i,O,rfl,hp,rfl,rfl,rfl⟩
     ·simp only[if_neg e];exact up j b a O
    ·rw[if_neg h];exact up l hl
   ·intro hl
    simp only[List.length_append,List.length_cons,List.length_nil]at hl
    rw[gh]
    by_cases h:l=(aV q F i).length
    ·rw[if_pos h]
     intro a ha
     exact⟨i,O,rfl,hp,rfl,rfl,rfl⟩
    ·rw[if_neg h];exact up l O
def Ho(q:Query)(F:Nat->ay)(k:Nat){i:Nat}(hi:i<(aV q F k).length):oc q F k (og q (aV q F k) i):=
 yD q F k _ (u4 q.ng (aV q F k).length (fj q.ng (aV q F k)) hi)
def S0(n g:Nat)(X:Nat->bj):an n (qN g X) (qN g X):=λi _ σ=>⟨⟨⟨⟨rfl,rfl,λj _=>jw _ _ j⟩,⟨rfl,rfl,λj _=>kS _ _ _ _ j⟩,⟨rfl,rfl,λj _=>jw _ _ j⟩,trivial⟩,rfl⟩,trivial⟩
def nf(n:Nat)(F:Nat->ay):an n (λj=>eD (F j)) λj=>eD (F j):=λ_ _ σ=>cL σ _
def OL(n:Nat)(a:Nat->List UInt8):an n (lh a) (lh a):=λj _ σ=>tn σ a j
def Hp(F:Nat->ay)(Y1:bj)(i:Nat):Int:=(F (Y1.T i).toNat).t
def Wz(k:Nat)(Y1:bj):Prop := ∀j,j<Y1.m->0<=Y1.T j/\Y1.T j<(k:Int)
def adY(a b v:Nat):AH:={n:=17,t:=Tr.ofList [(12,YT a),(13,YT v),(14,YT b),(15,.tE),(16,.loop .ready none (Tr.ofList [(2,.ptr 12 0 0 0),(5,.ptr 13 0 0 0)]) 24 [10,11] (bg II 168) (bh II 168) 15)]}
def Zw(a b:Nat)(V:Int->Nat)(i:Int):St:={t:=Tr.ofList [(0,.yield 16),(1,.ptr 14 0 0 0),(3,.int c_ i)],nt:=19,H:=adY a b (V i),df:=[]}
def Zx(a b v:Nat):GE:=.one (.x 0 {t:=.e,nt:=19,H:=adY a b v,df:=[]})
def aay(a b)(V)(v)(i)(Q):(kr [YA,SD] [] 212 1002 17 (Zw a b V) (λ_=>Zx a b v) (λi=>i-1) Q i)=(let d:=((numOf 1 λi=>h_ 1 (i_ (0+i*1) [e_ c_ 0]))+numOf (ar (numOf (ar a) (aG a)*M (aO b i.toNat))) (aG (numOf (ar a) (aG a)*M (aO b i.toNat))));(ah (d_ (i>=0)) (aa (d_ (0<=i)&&d_ (i<b_ (ar b))) (ah (d_ (b_ (ar (V i))>0)) (aa (d_ ((1+ar (V i))*8<=140737488355328)&&true) (ah (d_ (ar (V i)=0)) (aa (cO (ar a) (aG a)&&d_ (0<=aO b i.toNat)&&d_ (aO b i.toNat<10000)&&a_ (ar a) 90000) (aa ((cO 1 λi=>h_ 1 (i_ (0+i*1) [e_ c_ 0]))&&cO (ar (numOf (ar a) (aG a)*M (aO b i.toNat))) (aG (numOf (ar a) (aG a)*M (aO b i.toNat)))&&true&&a_ (ar (numOf (ar a) (aG a)*M (aO b i.toNat))) 90000) (aa (aN c_ (i-1)) (aT (bg II 168) (bg II 168)/\aT (bh II 168) (bh II 168)/\zyN (ar b) (zyR (ar b) (aG b) (ax (ar d) (ar (V (i-1))) (an (ar d) (aG d) (aG (V (i-1)))/\zyN (ar a) (zyR (ar a) (aG a) (zyI (i-1) Q))))))))) (aa (cO (ar a) (aG a)&&d_ (0<=aO b i.toNat)&&d_ (aO b i.toNat<10000)&&a_ (ar a) 90000) (aa (d_ (1+ar (V i)=1+ar (V i))&&true) (aa ((r_ (p_ (1+ar (V i))) λc=>bt.free (bif z c 1 then h_ 1 (i_ (0+c*1) [e_ c_ 0])else aG (V i) (c-1)))&&d_ (1+ar (V i)<=1+ar (V i))) (aa ((cO (1+ar (V i)) λc=>bif z c 1 then h_ 1 (i_ (0+c*1) [e_ c_ 0])else aG (V i) (c-1))&&cO (ar (numOf (ar a) (aG a)*M (aO b i.toNat))) (aG (numOf (ar a) (aG a)*M (aO b i.toNat)))&&a_ (1+ar (V i)) 90000&&a_ (ar (numOf (ar a) (aG a)*M (aO b i.toNat))) 90000) (aa (aN c_ (i-1)) (aT (bg II 168) (bg II 168)/\aT (bh II 168) (bh II 168)/\zyN (ar b) (zyR (ar b) (aG b) (ax (ar ((numOf (1+ar (V i)) λc=>bif z c 1 then h_ 1 (i_ (0+c*1) [e_ c_ 0])else aG (V i) (c-1))+numOf (ar (numOf (ar a) (aG a)*M (aO b i.toNat))) (aG (numOf (ar a) (aG a)*M (aO b i.toNat))))) (ar (V (i-1))) (an (ar ((numOf (1+ar (V i)) λc=>bif z c 1 then h_ 1 (i_ (0+c*1) [e_ c_ 0])else aG (V i) (c-1))+numOf (ar (numOf (ar a) (aG a)*M (aO b i.toNat))) (aG (numOf (ar a) (aG a)*M (aO b i.toNat))))) (aG ((numOf (1+ar (V i)) λc=>bif z c 1 then h_ 1 (i_ (0+c*1) [e_ c_ 0])else aG (V i) (c-1))+numOf (ar (numOf (ar a) (aG a)*M (aO b i.toNat))) (aG (numOf (ar a) (aG a)*M (aO b i.toNat))))) (aG (V (i-1)))/\zyN (ar a) (zyR (ar a) (aG a) (zyI (i-1) Q))))))))))))) (aa (cO (ar a) (aG a)&&d_ (0<=aO b i.toNat)&&d_ (aO b i.toNat<10000)&&a_ (ar a) 90000) (aa (d_ (ar (V i)=ar (V i))&&true&&r_ (p_ (ar (V i))) λc=>d_ (aO (V i) c=aO (V i) c)&&true) (aa (cO (ar (V i)) (aG (V i))&&cO (ar (numOf (ar a) (aG a)*M (aO b i.toNat))) (aG (numOf (ar a) (aG a)*M (aO b i.toNat)))&&a_ (ar (V i)) 90000&&a_ (ar (numOf (ar a) (aG a)*M (aO b i.toNat))) 90000) (aa (aN c_ (i-1)) (aT (bg II 168) (bg II 168)/\aT (bh II 168) (bh II 168)/\zyN (ar b) (zyR (ar b) (aG b) (ax (ar (numOf (ar (V i)) (aG (V i))+numOf (ar (numOf (ar a) (aG a)*M (aO b i.toNat))) (aG (numOf (ar a) (aG a)*M (aO b i.toNat))))) (ar (V (i-1))) (an (ar (numOf (ar (V i)) (aG (V i))+numOf (ar (numOf (ar a) (aG a)*M (aO b i.toNat))) (aG (numOf (ar a) (aG a)*M (aO b i.toNat))))) (aG (numOf (ar (V i)) (aG (V i))+numOf (ar (numOf (ar a) (aG a)*M (aO b i.toNat))) (aG (numOf (ar a) (aG a)*M (aO b i.toNat))))) (aG (V (i-1)))/\zyN (ar a) (zyR (ar a) (aG a) (zyI (i-1) Q)))))))))))) (aT (bg II 168) (bg II 168)/\aT (bh II 168) (bh II 168)/\zyN (ar b) (zyR (ar b) (aG b) (ax (ar (V i)) (ar v) (an (ar (V i)) (aG (V i)) (aG v)/\zyN (ar a) (zyR (ar a) (aG a) True))))))):=U
def adZ(a b)(V)(v)(Q):(kb [YA,SD] [(1002,17,Zw a b V (b_ (ar b)-1),Zx a b v)] 168 [.ab (ar a) 1 (aG a),.ab (ar b) 1 (aG b)] Q)=(aa (aN c_ (b_ (ar b)-1)) (eu PP II false (aD II 212 1002) 17 (Zw a b V (b_ (ar b)-1)) (Zx a b v)/\aT (bg II 168) (bg II 168)/\aT (bh II 168) (bh II 168)/\zyN (ar b) (zyR (ar b) (aG b) (ax (ar (V (b_ (ar b)-1))) 0 (zyN (ar a) (zyR (ar a) (aG a) (zyI (b_ (ar b)-1) (Q (AV.ab (ar v) 1 (aG v)))))))))):=U
def AR(a b:Nat)(i:Int):Nat:=a*(b/10000^(i+1).toNat)
def adf(a b n:Nat):AR a b (n:Int)=a*(b/10000^(n+1))/\AR a b ((n:Int)-1)=10000*AR a b (n:Int)+a*ob b n:=by
 have e1:((n:Int)+1).toNat=n+1:=O
 have c:((n:Int)-1+1).toNat=n:=O
 unfold AR ob
 rw[e1,c]
 refine⟨rfl,?_⟩
 have:b/10000^n=10000*(b/10000^(n+1))+b/10000^n%10000:=by
  rw[Nat.pow_succ,<-Nat.div_div_eq_div_mul];omega
 grind
def aaL(f):cO (1+ar f) (λi=>bif z i 1 then h_ 1 (i_ (0+i*1) [e_ c_ 0])else aG f (i-1))=true/\numOf (1+ar f) (λi=>bif z i 1 then h_ 1 (i_ (0+i*1) [e_ c_ 0])else aG f (i-1))=10000*f:=by
 have:=BZ 0 0 f
 rw[show ob 0 0=0 from rfl,Nat.zero_add]at this
 exact this
def aaj(f):(r_ (p_ (1+ar f)) (λi=>bt.free (bif z i 1 then h_ 1 (i_ (0+i*1) [e_ c_ 0])else aG f (i-1)))&&d_ (1+ar f<=1+ar f))=true:=IA 0 0 f
def aax(n v):an n (aG v) (aG v):=λi _ σ=>zM _ _ _
def YB{a b x y}(ha:ar a<=x)(c:ar b<=y):ar (a*b)<=x+y:=by
 rw[cN]at*
 rw[Nat.pow_add]
 exact Nat.mul_lt_mul'' ha c
def ab0{a b:Nat}(ha:ar a<=1000)(m:ar b<=1000):eu PP II false (aD II 212 1002) 17 (Zw a b (AR a b) (b_ (ar b)-1)) (Zx a b (a*b)):=by
 have key:=eu.of (ι:=Int) Hs [YA,SD] (bm PP II []) 1000 (c:=aD II 212 1002) (ir:=false) 17 (λi=> ∃j:Nat,i=(j:Int)-1/\j<=ar b) (λi=>Zw a b (AR a b) i) (λ_=>Zx a b (a*b)) (λi=>(i+1).toNat) (λi=>i-1) (b_ (ar b)-1) A ⟨ar b,rfl,dw _⟩ λi hi=>?_
 ·exact key
 have y:b_ (ar b)=(ar b:Int):=rfl
 have sa:aT (bg II 168) (bg II 168):=rfl
 have sb:aT (bh II 168) (bh II 168):=rfl
 obtain⟨j,rfl,B⟩:=hi
 cases j with
 |zero=>
  have o:AR a b (((0:Nat):Int)-1)=a*b:=by
   unfold AR
   rw[show(((0:Nat):Int)-1+1).toNat=0 by omega,Nat.pow_zero,Nat.div_one]
  have go:∀Q:Prop,kr [YA,SD] [] 212 1002 17 (Zw a b (AR a b)) (λ_=>Zx a b (a*b)) (λi=>i-1) Q (((0:Nat):Int)-1):=λQ=>by
   rw[aay,o]
   refine Zg O λ_=>?_
   repeat' (with_reducible first|exact trivial|exact sa|exact sb|exact aax _ _|refine YG A ?_|refine And.intro ?_ ?_)
  exact go _
 |succ n=>
  rw[show(((n+1:Nat):Int)-1)=(n:Int) by omega]
  obtain⟨p,q⟩:=adf a b n
  have hl:=kN b n
  have r:ar (AR a b (n:Int))<=2000:=by
   rw[p]
   exact s_ (mI (Nat.mul_le_mul_left a (o_ b _))) (YB ha m)
  have C:ar (a*ob b n)<=1001:=YB ha ((cN (k:=1)).2 O)
  have go:∀Q:Prop,Q->kr [YA,SD] [] 212 1002 17 (Zw a b (AR a b)) (λ_=>Zx a b (a*b)) (λi=>i-1) Q (n:Int):=λQ hQ=>by
   rw[aay,q,show M (n:Int)=n from rfl,show M (aO b n)=ob b n from rfl,bZ,bZ]
   generalize AR a b (n:Int)=v at r
   obtain⟨s,t⟩:=aaL v
   have f:(cO (ar a) (aG a)&&d_ (0<=aO b n)&&d_ (aO b n<10000)&&a_ (ar a) 90000)=true:=by
    rw[cM,bW (show 0<=aO b n from Int.natCast_nonneg _),bW (show aO b n<10000 from(O:((ob b n:Nat):Int)<10000)),kV O];rfl
   have g:aN c_ ((n:Int)-1)=true:=aq O O
   have l:=kV (O:ar (a*ob b n)<=90000)
   have u:=kV (O:ar v<=90000)
   have w:=kV (O:1+ar v<=90000)
   have x:=aaj v
   refine Zg (λ_=>?_) λh=>absurd (O:(n:Int)>=0) h
   refine cC _ _ (by simp only[bf,bn];omega) (Zg (λd=>?_) λd=>?_)
   ·refine cC _ _ (by rw[bW (O:(1+ar v)*8<=140737488355328)];rfl) (Zg (λh=>absurd d (by rw[h];decide)) λ_=>?_)
    rw[f,s,t,cM,g,l,w]
    refine cC _ _ A (cC _ _ (by rw[bW A];rfl) (cC _ _ x (cC _ _ A (cC _ _ A ?_))))
    exact ZK
   ·have e:v=0:=by
     rcases Nat.eq_zero_or_pos v with h|h
     ·exact h
     ·exfalso
      have:=rv (Nat.pos_iff_ne_zero.1 h)
      exact d (by show(0:Int)<((ar v:Nat):Int);omega)
    subst e
    have n0:numOf (ar 0) (aG 0)=0:=bZ 0
    rw[f,cM,cM,g,l,u,t_,n0]
    refine cC _ _ A (cC _ _ zA (cC _ _ A (cC _ _ A ?_)))
    exact ZK
  exact go _ ⟨⟨n,rfl,O⟩,O,rfl⟩
def aba{a b}(ha:ar a<=1000)(c:ar b<=1000):af PP II 168 [jm a,jm b] (AH.blank 12) (.ret (jm (a*b)) (AH.blank 12)):=by
 refine bY (ks:=[YA,SD]) (T:=[(1002,17,Zw a b (AR a b) (b_ (ar b)-1),Zx a b (a*b))]) (λσ=>mP σ _) ?_
 show kb _ _ 168 [.ab (ar a) 1 (aG a),.ab (ar b) 1 (aG b)] _
 have e:b_ (ar b)=(ar b:Int):=rfl
 have d:AR a b (b_ (ar b)-1)=0:=by
  unfold AR
  rw[show(b_ (ar b)-1+1).toNat=ar b by omega,Nat.div_eq_of_lt (fY b),t_]
 rw[adZ]
 refine cC _ _ (aq O O) ⟨ab0 ha c,rfl,rfl,YG A ⟨aax _ _,?_⟩⟩
 rw[d]
 exact YG DC (YG A ⟨aax _ _,Zf A A⟩)
def abb:aC PP II:=aC.pure 168
 (λX args a=>match args with
  |[.ab k 1 f,.ab m 1 g]=>X.bq (jn k f&&jn m g&&a_ k 1000&&a_ m 1000) (a (jm (numOf k f*numOf m g)))
  |_=>X.fail)
 λX sem hX args a h=>by
  split at h
  ·rename_i k f m g
   obtain⟨b,c⟩:=hX.bq _ _ h
   simp only[bf]at b
   obtain⟨⟨⟨a1,a2⟩,d⟩,e⟩:=b
   obtain⟨l1,_⟩:=oD a1
   obtain⟨l2,_⟩:=oD a2
   have e1:k=ar (numOf k f):=l1.1
   have i:m=ar (numOf m g):=l2.1
   exact⟨_,c,λ_=>rfl,λ_=>rfl,(aba (e1▸jX d) (i▸jX e)).dq ⟨l1,l2,trivial⟩⟩
  ·exact zR
def ab1(a b:List UInt8)(Q:AV->Prop):(kp [Au,abb,L9] [] 115 [.str a,.str b] Q)=(let c:=(numOf (ar (ao a)) (aG (ao a))*numOf (ar (ao b)) (aG (ao b)));(aa (isNat a&&isNat b) (aa (jn (ar (ao a)) (aG (ao a))&&jn (ar (ao b)) (aG (ao b))&&a_ (ar (ao a)) 1000&&a_ (ar (ao b)) 1000) (aa (jn (ar c) (aG c)&&gI (numOf (ar c) (aG c))) (Q (l_ [f_ (xO false (numOf (ar c) (aG c))),e_ c_ 0])))))):=U
def ab2(a b:List UInt8)(Q:AV->Prop):(kp [Au,L8,Aj,L9] [] 50 [.str a,.str b] Q)=(let c:=(numOf (ar (ao a)) (aG (ao a))-numOf (ar (ao b)) (aG (ao b)));let d:=(numOf (ar (ao b)) (aG (ao b))-numOf (ar (ao a)) (aG (ao a)));let e:=(numOf (ar (ao a)) (aG (ao a)));let f:=(numOf (ar (ao b)) (aG (ao b)));(aa (isNat a&&isNat b) (aa (jn (ar (ao a)) (aG (ao a))&&jn (ar (ao b)) (aG (ao b))) (ah (d_ (DA e f>=0)) (aa (cO (ar (ao a)) (aG (ao a))&&cO (ar (ao b)) (aG (ao b))&&a_ f e&&a_ (ar (ao a)) 90000) (aa (jn (ar c) (aG c)&&gI (numOf (ar c) (aG c))) (Q (l_ [f_ (xO false (numOf (ar c) (aG c))),e_ c_ 0])))) (aa (cO (ar (ao b)) (aG (ao b))&&cO (ar (ao a)) (aG (ao a))&&a_ e f&&a_ (ar (ao b)) 90000) (aa (jn (ar d) (aG d)&&gI (numOf (ar d) (aG d))) (Q (l_ [f_ (xO true (numOf (ar d) (aG d))),e_ c_ 0])))))))):=U
def VJ{a}(h:isNat a=true):gI (ao a)=true:=(iC h).2
def SG{v}(h:gI v=true):ar v<=1000:=by
 have:=tW (jX h)
 omega
def ab3{a b}(ha:isNat a=true)(c:isNat b=true)(ht:gI (ao a*ao b)=true):af PP II 115 [.str a,.str b] HP (.ret (.qP [.str (bu (ao a*ao b)),.int c_ 0]) HP):=by
 have d:=VJ ha
 have e:=VJ c
 refine kz (ks:=[Au,abb,L9]) (T:=[]) ?_
 rw[ab1]
 simp only[bZ,jo ht,jo d,jo e,ha,c,ht,qH,kV (SG d),kV (SG e),j_]
 exactλσ=>⟨rfl,⟨rfl,rfl⟩,trivial⟩
def V8:aC PP II:=aC.l8 115
 (λX args d=>match args with
  |[.str a,.str b]=>X.bq (isNat a&&isNat b&&gI (ao a*ao b)) (d (.qP [.str (bu (ao a*ao b)),.int c_ 0]))
  |_=>X.fail)
 λX sem hX args d h=>by
  split at h
  ·obtain⟨c,e⟩:=hX.bq _ _ h
   simp only[bf]at c
   exact⟨_,e,λ_=>rfl,λ_=>rfl,ab3 c.1.1 c.1.2 c.2⟩
  ·exact zR
def ab4{a b}(ha:isNat a=true)(e:isNat b=true)(c:ao b<=ao a):af PP II 50 [.str a,.str b] HP (.ret (.qP [.str (bu (ao a-ao b)),.int c_ 0]) HP):=by
 have d:=VJ ha
 have g:=VJ e
 have f:gI (ao a-ao b)=true:=dS (u_ _ _) d
 have h:DA (ao a) (ao b)>=0:=by
  unfold DA
  split
  ·omega
  ·split<;>omega
 refine kz (ks:=[Au,L8,Aj,L9]) (T:=[]) ?_
 rw[ab2]
 simp only[bZ,jo d,jo g,jo f,ha,e,f,qH,cM,kV c,kV (s_ (SG d) (O:1000<=90000)),bW h,j_]
 exactλσ=>⟨rfl,⟨rfl,rfl⟩,trivial⟩
def ac0:aC PP II:=aC.l8 50
 (λX args d=>match args with
  |[.str a,.str b]=>X.bq (isNat a&&isNat b&&a_ (ao b) (ao a)) (d (.qP [.str (bu (ao a-ao b)),.int c_ 0]))
  |_=>X.fail)
 λX sem hX args d h=>by
  split at h
  ·obtain⟨c,e⟩:=hX.bq _ _ h
   simp only[bf]at c
   exact⟨_,e,λ_=>rfl,λ_=>rfl,ab4 c.1.1 c.1.2 ZD⟩
  ·exact zR
def ab5(a b c d)(Q):(kp [yM,V8,Mf,TY,Me] [] 22 [.agg [.str a,.str c],.agg [.str b,.str d]] Q)=(let e:=(bu (g_ (ao (bu (ao a*ao b))) (ao (bu (ao c*ao d)))));(aa (bJ a c) (aa (aN c_ 1) (aa (bJ b d) (aa (aN c_ 2) (aa (isNat a&&isNat b&&gI (ao a*ao b)) (aa (isNat c&&isNat d&&gI (ao c*ao d)) (ah (k_ (bu (ao c*ao d)) [48]) (Q (l_ [m_ [f_ [],f_ []],e_ c_ 40])) (aa (isNat (bu (ao c*ao d))&&z 0 (ao (bu (ao c*ao d)))) (aa (isNat (bu (ao a*ao b))&&isNat (bu (ao c*ao d))) (aa (isNat (bu (ao a*ao b))&&isNat e&&z 0 (ao e)) (aa (isNat (bu (ao c*ao d))&&isNat e&&z 0 (ao e)) (Q (l_ [m_ [f_ (bu (ao (bu (ao a*ao b))/ao e)),f_ (bu (ao (bu (ao c*ao d))/ao e))],e_ c_ 0])))))))))))))):=U
def ab6(a b c d)(Q):(kp [yM,V8,Mf,TY,Me] [] 193 [.agg [.str a,.str c],.agg [.str b,.str d]] Q)=(let e:=(bu (g_ (ao (bu (ao a*ao d))) (ao (bu (ao c*ao b)))));(aa (bJ a c) (aa (aN c_ 1) (aa (bJ b d) (aa (aN c_ 2) (aa (isNat a&&isNat d&&gI (ao a*ao d)) (aa (isNat c&&isNat b&&gI (ao c*ao b)) (ah (k_ (bu (ao c*ao b)) [48]) (Q (l_ [m_ [f_ [],f_ []],e_ c_ 40])) (aa (isNat (bu (ao c*ao b))&&z 0 (ao (bu (ao c*ao b)))) (aa (isNat (bu (ao a*ao d))&&isNat (bu (ao c*ao b))) (aa (isNat (bu (ao a*ao d))&&isNat e&&z 0 (ao e)) (aa (isNat (bu (ao c*ao b))&&isNat e&&z 0 (ao e)) (Q (l_ [m_ [f_ (bu (ao (bu (ao a*ao d))/ao e)),f_ (bu (ao (bu (ao c*ao b))/ao e))],e_ c_ 0])))))))))))))):=U
def ab7(a b c d)(Q):(kp [yM,V8,Ve,Mf,TY,Me] [] 25 [.agg [.str a,.str c],.agg [.str b,.str d]] Q)=(let f:=(ao (bu (ao a*ao d))+ao (bu (ao b*ao c)));let e:=(bu (g_ (ao (bu f)) (ao (bu (ao c*ao d)))));(aa (bJ a c) (aa (aN c_ 1) (aa (bJ b d) (aa (aN c_ 2) (aa (isNat a&&isNat d&&gI (ao a*ao d)) (aa (d_ (b=b)) (aa (d_ (c=c)) (aa (isNat b&&isNat c&&gI (ao b*ao c)) (aa (isNat (bu (ao a*ao d))&&isNat (bu (ao b*ao c))&&gI (ao (bu (ao a*ao d)))&&gI (ao (bu (ao b*ao c)))&&gI f) (aa (isNat c&&isNat d&&gI (ao c*ao d)) (ah (k_ (bu (ao c*ao d)) [48]) (Q (l_ [m_ [f_ [],f_ []],e_ c_ 40])) (aa (isNat (bu (ao c*ao d))&&z 0 (ao (bu (ao c*ao d)))) (aa (isNat (bu f)&&isNat (bu (ao c*ao d))) (aa (isNat (bu f)&&isNat e&&z 0 (ao e)) (aa (isNat (bu (ao c*ao d))&&isNat e&&z 0 (ao e)) (Q (l_ [m_ [f_ (bu (ao (bu f)/ao e)),f_ (bu (ao (bu (ao c*ao d))/ao e))],e_ c_ 0])))))))))))))))))):=U
def ab8(a b c d)(Q):(kp [yM,V8,ac0,Mf,TY,Me] [] 21 [.agg [.str a,.str c],.agg [.str b,.str d]] Q)=(let f:=(bu (ao (bu (ao a*ao d))-ao (bu (ao b*ao c))));let e:=(bu (g_ (ao f) (ao (bu (ao c*ao d)))));(aa (bJ a c) (aa (aN c_ 1) (aa (bJ b d) (aa (aN c_ 2) (aa (isNat a&&isNat d&&gI (ao a*ao d)) (aa (d_ (b=b)) (aa (d_ (c=c)) (aa (isNat b&&isNat c&&gI (ao b*ao c)) (aa (isNat (bu (ao a*ao d))&&isNat (bu (ao b*ao c))&&a_ (ao (bu (ao b*ao c))) (ao (bu (ao a*ao d)))) (aa (isNat c&&isNat d&&gI (ao c*ao d)) (ah (k_ (bu (ao c*ao d)) [48]) (Q (l_ [m_ [f_ [],f_ []],e_ c_ 40])) (aa (isNat (bu (ao c*ao d))&&z 0 (ao (bu (ao c*ao d)))) (aa (isNat f&&isNat (bu (ao c*ao d))) (aa (isNat f&&isNat e&&z 0 (ao e)) (aa (isNat (bu (ao c*ao d))&&isNat e&&z 0 (ao e)) (Q (l_ [m_ [f_ (bu (ao f/ao e)),f_ (bu (ao (bu (ao c*ao d))/ao e))],e_ c_ 0])))))))))))))))))):=U
def ON{a c}(h:bJ a c=true):isNat a=true/\isNat c=true/\0<ao c/\g_ (ao a) (ao c)=1:=by
 unfold bJ at h
 simp_all
def not_zero{v}(h:0<v):k_ (bu v) [48]=false:=by
 rw[Ax (k:=0) ly]
 cases e:Nat.beq v 0 with
 |false=>rfl
 |true=>simp_all
def UK{n d}(hn:gI n=true)(a:gI d=true)(h:0<d):isNat (bu n)=true/\isNat (bu d)=true/\isNat (bu (g_ n d))=true/\z 0 (g_ n d)=true/\z 0 d=true :=
 ⟨dc hn,dc a,dc (Ci hn a),ZD,Nat.blt_eq.mpr h⟩
def Y5(σ)(n d):AV.le σ (.qP [kA n d,.int c_ 0]) (.qP [kA n d,.int c_ 0]):=⟨⟨rfl,rfl,trivial⟩,⟨rfl,rfl⟩,trivial⟩
def ab9{a b c d}(g:bJ a c=true)(h:bJ b d=true)(hn:gI (ao a*ao b)=true)(i:gI (ao c*ao d)=true):af PP II 22 [.agg [.str a,.str c],.agg [.str b,.str d]] HP (.ret (.qP [kA (ao a*ao b) (ao c*ao d),.int c_ 0]) HP):=by
 obtain⟨a1,a2,k,_⟩:=ON g
 obtain⟨l,m,n,_⟩:=ON h
 have p:=n_ k n
 obtain⟨l1,l2,o,q,r⟩:=UK hn i p
 refine kz (ks:=[yM,V8,Mf,TY,Me]) (T:=[]) ?_
 rw[ab5]
 generalize j:k_ (bu _) (_::_)=f
 have e:f=false:=j.symm.trans (not_zero p)
 clear j
 subst e
 simp only[cq,g,h,a1,a2,l,m,hn,i,l1,l2,o,q,r,j_]
 exactλσ=>Y5 σ _ _
def aca{a b c d}(g:bJ a c=true)(h:bJ b d=true)(k:0<ao b)(hn:gI (ao a*ao d)=true)(i:gI (ao c*ao b)=true):af PP II 193 [.agg [.str a,.str c],.agg [.str b,.str d]] HP (.ret (.qP [kA (ao a*ao d) (ao c*ao b),.int c_ 0]) HP):=by
 obtain⟨a1,a2,l,_⟩:=ON g
 obtain⟨m,n,s,_⟩:=ON h
 have p:=n_ l k
 obtain⟨l1,l2,o,q,r⟩:=UK hn i p
 refine kz (ks:=[yM,V8,Mf,TY,Me]) (T:=[]) ?_
 rw[ab6]
 generalize j:k_ (bu _) (_::_)=f
 have e:f=false:=j.symm.trans (not_zero p)
 clear j
 subst e
 simp only[cq,g,h,a1,a2,m,n,hn,i,l1,l2,o,q,r,j_]
 exactλσ=>Y5 σ _ _
def acb{a b c d}(g:bJ a c=true)(h:bJ b d=true)(hx:gI (ao a*ao d)=true)(i:gI (ao b*ao c)=true)(hn:gI (ao a*ao d+ao b*ao c)=true)(j:gI (ao c*ao d)=true):af PP II 25 [.agg [.str a,.str c],.agg [.str b,.str d]] HP (.ret (.qP [kA (ao a*ao d+ao b*ao c) (ao c*ao d),.int c_ 0]) HP):=by
 obtain⟨a1,a2,l,_⟩:=ON g
 obtain⟨m,n,o,_⟩:=ON h
 have p:=n_ l o
 obtain⟨l1,l2,q,r,s⟩:=UK hn j p
 refine kz (ks:=[yM,V8,Ve,Mf,TY,Me]) (T:=[]) ?_
 rw[ab7]
 generalize k:k_ (bu _) (_::_)=f
 have e:f=false:=k.symm.trans (not_zero p)
 clear k
 subst e
 simp only[cq,g,h,a1,a2,m,n,hn,j,hx,i,dc hx,dc i,l1,l2,q,r,s,j_,decide_true]
 exactλσ=>Y5 σ _ _
def acd{a b c d:List UInt8}(h:bJ a c=true)(i:bJ b d=true)(hx:gI (ao a*ao d)=true)(g:ao b*ao c<=ao a*ao d)(j:gI (ao c*ao d)=true):af PP II 21 [.agg [.str a,.str c],.agg [.str b,.str d]] HP (.ret (.qP [kA (ao a*ao d-ao b*ao c) (ao c*ao d),.int c_ 0]) HP):=by
 obtain⟨a1,a2,m,_⟩:=ON h
 obtain⟨n,o,q,_⟩:=ON i
 have p:=n_ m q
 have k:=dS g hx
 have hn:=dS (u_ (ao a*ao d) (ao b*ao c)) hx
 obtain⟨l1,l2,r,s,t⟩:=UK hn j p
 refine kz (ks:=[yM,V8,ac0,Mf,TY,Me]) (T:=[]) ?_
 rw[ab8]
 generalize l:k_ (bu _) (_::_)=f
 have e:f=false:=l.symm.trans (not_zero p)
 clear l
 subst e
 simp only[cq,h,i,a1,a2,n,o,hn,j,hx,k,dc hx,dc k,kV g,l1,l2,r,s,t,j_,decide_true]
 exactλσ=>Y5 σ _ _
def rN(n d:Nat):List UInt8:=bu (n/g_ n d)
def rD(n d:Nat):List UInt8:=bu (d/g_ n d)
def Xu(n d:Nat):ao (rN n d)=n/g_ n d:=cq _
def Xv(n d:Nat):ao (rD n d)=d/g_ n d:=cq _
def RL{n d:Nat}(hn:gI n=true)(a:gI d=true)(h:0<d):bJ (rN n d) (rD n d)=true:=by
 have g:=Nat.gcd_pos_of_pos_right n h
 have b:0<d/g_ n d:=Nat.div_pos (Nat.le_of_dvd h (Nat.gcd_dvd_right n d)) g
 unfold bJ
 rw[Xu,Xv,show isNat (rN n d)=true from dc (dS (o_ _ _) hn),show isNat (rD n d)=true from dc (dS (o_ _ _) a),Nat.blt_eq.mpr b,show g_ (n/g_ n d) (d/g_ n d)=1 from Nat.gcd_div_gcd_div_gcd_of_pos_right h,ni]
 rfl
def zS(a c b d:List UInt8):List UInt8:=rN (ao a*ao b) (ao c*ao d)
def zT(a c b d:List UInt8):List UInt8:=rD (ao a*ao b) (ao c*ao d)
def Ed(a c b d:List UInt8):Bool:=bJ a c&&bJ b d&&gI (ao a*ao b)&&gI (ao c*ao d)
def aak(a c b d:List UInt8):List UInt8:=rN (ao a*ao d) (ao c*ao b)
def aal(a c b d:List UInt8):List UInt8:=rD (ao a*ao d) (ao c*ao b)
def Wa(a c b d:List UInt8):Bool:=bJ a c&&bJ b d&&z 0 (ao b)&&gI (ao a*ao d)&&gI (ao c*ao b)
def Wg(a c b d:List UInt8):List UInt8:=rN (ao a*ao d+ao b*ao c) (ao c*ao d)
def Wh(a c b d:List UInt8):List UInt8:=rD (ao a*ao d+ao b*ao c) (ao c*ao d)
def S8(a c b d:List UInt8):Bool:=bJ a c&&bJ b d&&gI (ao a*ao d+ao b*ao c)&&gI (ao c*ao d)
def RG(a c b d:List UInt8):List UInt8:=rN (ao a*ao d-ao b*ao c) (ao c*ao d)
def RH(a c b d:List UInt8):List UInt8:=rD (ao a*ao d-ao b*ao c) (ao c*ao d)
def RO(a c b d:List UInt8):Bool:=bJ a c&&bJ b d&&a_ (ao b*ao c) (ao a*ao d)&&gI (ao a*ao d)&&gI (ao c*ao d)
def aC.Fo(f:FuncId)(ok:List UInt8->List UInt8->List UInt8->List UInt8->Bool)(i B:List UInt8->List UInt8->List UInt8->List UInt8->List UInt8)
  (h:∀{a c b d},ok a c b d=true->af PP II f [.agg [.str a,.str c],.agg [.str b,.str d]] HP (.ret (.qP [.agg [.str (i a c b d),.str (B a c b d)],.int c_ 0]) HP)):aC PP II:=aC.l8 f
 (λX args l=>match args with
  |[.agg [.str a,.str c],.agg [.str b,.str d]]=>X.bq (ok a c b d) (l (.qP [.agg [.str (i a c b d),.str (B a c b d)],.int c_ 0]))
  |_=>X.fail)
 λX sem hX args l j=>by
  split at j
  ·obtain⟨m,o⟩:=hX.bq _ _ j
   exact⟨_,o,λ_=>rfl,λ_=>rfl,h m⟩
  ·exact absurd j hX.fail
def TL:aC PP II:=aC.Fo 22 Ed zS zT λa=>by
 simp only[Ed,bf]at a
 exact ab9 a.1.1.1 a.1.1.2 a.1.2 a.2
def YC:aC PP II:=aC.Fo 193 Wa aak aal λa=>by
 simp only[Wa,bf,Nat.blt_eq]at a
 exact aca a.1.1.1.1 a.1.1.1.2 a.1.1.2 a.1.2 a.2
def abc:aC PP II:=aC.Fo 25 S8 Wg Wh λa=>by
 simp only[S8,bf]at a
 exact acb a.1.1.1 a.1.1.2 (dS (Nat.le_add_right _ _) a.1.2) (dS (Nat.le_add_left _ _) a.1.2) a.1.2 a.2
def VK:aC PP II:=aC.Fo 21 RO RG RH λa=>by
 simp only[RO,bf]at a
 exact acd a.1.1.1.1 a.1.1.1.2 a.1.2 (jX a.1.1.2) a.2
end
end Go.Sx
