/- The proof of a statement of the seat, part 36. -/
import Derived.Test.YtoijalagmmgkbaaGreatDoorX35
import Derived.Test.YtoijalagmmgkbaaGreatDoorX20
import Derived.Test.YtoijalagmmgkbaaGreatDoorX11
import Derived.Test.YtoijalagmmgkbaaGreatDoorX30
import Derived.Test.YtoijalagmmgkbaaGreatDoorX28
set_option linter.all false
set_option linter.defProp false
set_option maxRecDepth 1000000
namespace Go.Sx
open Go
open Int renaming toNat->B,ofNat->b_,tdiv->d_
open Decidable renaming decide->z
open Go.IntKind renaming i64->a_
open AV renaming int->c_,bool->s_
open Tr renaming ofList->e_
open Nat renaming blt->f_,zero_le->o_,blt_eq->t_,beq->u_,ble->v_
open AH renaming blank->g_
open Bool renaming or_eq_false_iff->h_,true_and->j_,and_true->k_,and_eq_false_iff->n_,not_eq_true'->p_,or_eq_true->r_
open List renaming range->i_,take->l_,drop->m_
noncomputable section
def Dg(W):∀k,0<k->∃i,i<k/\jc W k=W i
 |0,h=>O
 |1,_=>⟨0,O,by show(if W 0<W 0 then W 0 else W 0)=W 0;split<;>rfl⟩
 |k+2,_=>by
  obtain⟨i,hi,e⟩:=Dg W (k+1) O
  show ∃i,i<k+2/\(if W (k+1)<jc W (k+1)then W (k+1)else jc W (k+1))=W i
  grind
def Dh(W):∀k,0<k->∃i,i<k/\cG W k=W i
 |0,h=>O
 |1,_=>⟨0,O,by show(if W 0>W 0 then W 0 else W 0)=W 0;split<;>rfl⟩
 |k+2,_=>by
  obtain⟨i,hi,e⟩:=Dh W (k+1) O
  show ∃i,i<k+2/\(if W (k+1)>cG W (k+1)then W (k+1)else cG W (k+1))=W i
  grind
def jx{x}(h:bB x=true):(0<=x.l/\x.l<=x.h/\x.h<=4398046511104)/\0<=x.b/\x.b<=24000:=by
 unfold bB at h
 grind
def xh{q x}(b:bB x=true){m}(a:m<jQ q x):0<=fT q x m/\fT q x m<=4398046511104:=by
 obtain⟨⟨c,d,e⟩,_⟩:=jx b
 have a:m<(NH q x (3*(q.nw+2))).length:=a
 have:fT q x m∈NH q x (3*(q.nw+2)):=by
  unfold fT
  rw[List.getD_eq_getElem?_getD,mo a]
  exact List.getElem_mem _
 have:=QP this
 unfold qS xG at this
 grind
def xi{q x}(f:eU q=true)(c:bB x=true)(d:gk q x=true):0<=kR q x/\kR q x<=4398046511104:=by
 obtain⟨⟨g,h,j⟩,k,m⟩:=jx c
 unfold kR
 rw[d]
 show 0<=(if q.a=1 then 1 else if q.fl=7 then x.b else match jA q x with|true=>x.l|false=>jc (fT q x) (jQ q x))/\(if q.a=1 then 1 else if q.fl=7 then x.b else match jA q x with|true=>x.l|false=>jc (fT q x) (jQ q x))<=4398046511104
 split
 ·omega
 ·split
  ·omega
  ·split
   ·omega
   ·obtain⟨i,hi,e⟩:=Dg (fT q x) (jQ q x) (wX f d)
    rw[e];exact xh c hi
def FL{q x}(f:eU q=true)(c:bB x=true)(d:gk q x=true):0<=lJ q x/\lJ q x<=4398046511104:=by
 obtain⟨⟨g,j,k⟩,l,m⟩:=jx c
 unfold lJ
 rw[d]
 show 0<=(if q.a=1 then 1 else if q.fl=7 then x.b else match jA q x with|true=>x.h|false=>cG (fT q x) (jQ q x))/\(if q.a=1 then 1 else if q.fl=7 then x.b else match jA q x with|true=>x.h|false=>cG (fT q x) (jQ q x))<=4398046511104
 split
 ·omega
 ·split
  ·omega
  ·split
   ·omega
   ·obtain⟨i,hi,e⟩:=Dh (fT q x) (jQ q x) (wX f d)
    rw[e];exact xh c hi
def xj{W m v}(h:fA W m)(a:0<=v/\v<=4398046511104):fA (gV W m v) (m+1):=λi hi=>by
 unfold gV
 by_cases e:i=m
 omega
 ·rw[if_neg e];exact h i O
structure Di (gs:List bj) (n:Nat):Prop where
 ms:∀a,a<gs.length->(aK gs a).m<=n
 lo:∀a,a<gs.length->fA (aK gs a).L (aK gs a).m
 hi:∀a,a<gs.length->fA (aK gs a).G (aK gs a).m
def y6{q}(F)(b:eU q=true):∀i,(∀j,j<i->bB (F j)=true)->Di (aV q F i) i
 |0,_=>⟨λj a=>absurd a ZE,λj a=>absurd a ZE,λj a=>absurd a ZE⟩
 |i+1,c=>by
  obtain⟨k,d,e⟩:=y6 F b i λj a=>c j O
  show Di (km q (aV q F i) i (F i)) (i+1)
  unfold km
  cases hp:gk q (F i)with
  |false=>exact⟨Y,d,e⟩
  |true=>
   simp only[cond_true]
   have f:=xi b (c i O) hp
   have g:=FL b (c i O) hp
   split
   ·rename_i j a
    obtain⟨a,_⟩:=lF a
    refine⟨λl hl=>?_,λl hl=>?_,λl hl=>?_⟩
    all_goals
     rw[List.length_set]at hl
     rw[gg a]
     by_cases h:l=j
    grind
    grind
    ·rw[if_pos h];exact xj (d j a) f
    grind
    ·rw[if_pos h];exact xj (e j a) g
    grind
   ·refine⟨λl hl=>?_,λl hl=>?_,λl hl=>?_⟩
    all_goals
     simp only[List.length_append,List.length_cons,List.length_nil]at hl
     rw[gh]
     by_cases h:l=(aV q F i).length
    grind
    grind
    ·rw[if_pos h];exactλ_ _=>f
    grind
    ·rw[if_pos h];exactλ_ _=>g
    grind
def y7{q k W C}(d:k<=1000)(a:fA W k)(b:eU q=true):bJ (eO q k W C).1 (eO q k W C).2=true:=by
 unfold eO
 have h:=mU C k
 split
 ·obtain⟨j,f,e⟩:=Zx (better:=λc=>z (c<0)) (R:=bN q (aP C k) (bS C W k) (bQ (aP (λi=>!C i) k) (bS (λi=>!C i) W k))) (aP (λi=>!C i) k)
  rw[e]
  have g:=dn O (pI (fR (p:=C) a) (kP (fR (p:=λi=>!C i) a)))
  cases j with
  |zero=>exact cz (dn O (fR a)) b
  |succ j=>exact cz (dD g O) b
 ·obtain⟨j,f,e⟩:=Zx (better:=λc=>z (c<0)) (R:=br q (bQ k W)) k
  rw[e]
  cases j with
  |zero=>exact cz (k:=0) (W:=λ_=>0) A b
  |succ j=>exact cz (dD (dn d (kP a)) O) b
def y8{q k W C}(d:k<=1000)(a:fA W k)(b:eU q=true):bJ (dQ q k W C).1 (dQ q k W C).2=true:=by
 unfold dQ
 have h:=mU C k
 split
 ·obtain⟨j,f,e⟩:=Zx (better:=λc=>z (c>0)) (R:=bN q (aP C k) (bS C W k) (cK (aP (λi=>!C i) k) (bS (λi=>!C i) W k))) (aP (λi=>!C i) k)
  rw[e]
  have g:=dn O (pI (fR (p:=C) a) (kQ (fR (p:=λi=>!C i) a)))
  cases j with
  |zero=>exact cz (dn O (fR a)) b
  |succ j=>exact cz (dD g O) b
 ·obtain⟨j,f,e⟩:=Zx (better:=λc=>z (c>0)) (R:=br q (cK k W)) k
  rw[e]
  cases j with
  |zero=>exact cz (k:=0) (W:=λ_=>0) A b
  |succ j=>exact cz (dD (dn d (kQ a)) O) b
def yc(q:Query)(X:Nat->bj):Nat->Nat->List UInt8:=nV (aX q.ng (dK X) (jC q X))
def N9(q:Query)(n:Nat)(X:Nat->bj):AV:=.bK [.az (ju q n (yc q X)) 9 (aX q.ng (λj=>dK X (cS q n (yc q X) j)) λj=>jC q X (cS q n (yc q X) j)),.int a_ 0]
def uo(F):(bP λi=>aF (F i))=F:=rfl
def jR{k F}(h:cX k F=true):∀i,i<k->bB (F i)=true:=by
 unfold cX at h
 simp only[bf,bn]at h
 intro i hi
 have:=List.all_eq_true.1 h.1.1 i (List.mem_range.2 hi)
 unfold sQ at this
 grind
def jS{k F}(h:cX k F=true):k<=400:=by
 unfold cX at h
 grind
def r7(n:Nat)(X:Nat->bj):Prop := ∀i,i<n->(X i).m<=1000/\fA (X i).L (X i).m/\fA (X i).G (X i).m
def JQ(q)(n)(X)(i)(hi:i<n)(l:n<=1000000)(c:ct q=true)(hX:r7 n X)(j)(m:j=(i:Int))(Q)(hQ:Q):
  kr [r6 q] [] 13 5001 15 (QZ q n X (dK X) (jC q X) B) (λ_=>Q0 q n (dK X) (jC q X)) (λi=>i+1) Q j:=by
 rw[Df]
 obtain⟨b,hL,hG⟩:=hX i hi
 have d:B j=i:=O
 have e:B (j+1)=i+1:=O
 have o:b_ n=(n:Int):=rfl
 rw[d,e]
 have f:ka (bi (X i).L (X i).G (X i).C)=(X i).L:=rfl
 have g:iF (bi (X i).L (X i).G (X i).C)=(X i).G:=rfl
 have h:iG (bi (X i).L (X i).G (X i).C)=(X i).C:=rfl
 rw[f,g,h,jv,c,rS,dn b hL,dn b hG]
 have rows:=AZ q.ng (dK X) (dK X) (jC q X) (jC q X) i i A A
 have rr:=eP (i+1) q.ng (dK X) (jC q X)
 have tr:an n (qN q.ng X) (qN q.ng X):=λi _ σ=>⟨⟨⟨⟨rfl,rfl,λj _=>jw _ _ j⟩,⟨rfl,rfl,λj _=>kS _ _ _ _ j⟩,⟨rfl,rfl,λj _=>jw _ _ j⟩,trivial⟩,rfl⟩,trivial⟩
 have k:(z (i<=i)&&true&&true&&z ((i+1)*152<=140737488355328)&&true)=true:=by rw[bW (dw i),bW O];rfl
 have a:aN a_ (j+1)=true:=aq O O
 refine Zg (λ_=>?_) O
 refine cC _ _ Y (cC _ _ A (cC _ _ k (cC _ _ a ?_)))
 repeat' (first|with_reducible refine Zf A ?_|with_reducible refine YG A ?_|with_reducible refine Zi A ?_|with_reducible refine And.intro ?_ ?_|with_reducible exact bC _ _|with_reducible exact bO _ _|with_reducible exact aZ|assumption|assumption|exact rows|exact tr)
def Q2(q)(n:Nat)(X)(j)(b:j=(n:Int))(Q):
  kr [r6 q] [] 13 5001 15 (QZ q n X (dK X) (jC q X) B) (λ_=>Q0 q n (dK X) (jC q X)) (λi=>i+1) Q j:=by
 rw[Df]
 have a:B j=n:=O
 have c:b_ n=(n:Int):=rfl
 rw[a]
 have rr:=eP n q.ng (dK X) (jC q X)
 refine Zg O (λ_=>?_)
 repeat' (first|with_reducible refine Zf A ?_|with_reducible refine YG A ?_|with_reducible refine Zi A ?_|with_reducible refine And.intro ?_ ?_|with_reducible exact bC _ _|with_reducible exact bO _ _|with_reducible exact aZ|grind|simp)
def Oa(q)(n)(X)(a:n<=1000000)(b:ct q=true)(hX:r7 n X):Zu PP II false (aD II 13 5001) 15 (QZ q n X (dK X) (jC q X) B 0) (Q0 q n (dK X) (jC q X)):=by
 have key:=Zu.of (ι:=Int) iw [r6 q] (bm PP II []) 1000 (c:=aD II 13 5001) (ir:=false) 15 (λj=> ∃i:Nat,j=(i:Int)/\i<=n) (λj=>QZ q n X (dK X) (jC q X) B j) (λ_=>Q0 q n (dK X) (jC q X)) (λj=>n-j.toNat) (λj=>j+1) 0 A ⟨0,rfl,o_ _⟩ λj d=>?_
 ·exact key
 obtain⟨i,hi,e⟩:=d
 by_cases h:i<n
 ·exact JQ q n X i h a b hX j hi _ Y
 ·exact Q2 q n X j O _
def tm{q k F}(c:eU q=true)(b:cX k F=true):r7 (aV q F k).length (og q (aV q F k)):=λi hi=>by
 have g:=jS b
 obtain⟨d,e,f⟩:=y6 F c k (jR b)
 have a:=u4 q.ng (aV q F k).length (fj q.ng (aV q F k)) hi
 exact⟨Nat.le_trans (d _ a) O,e _ a,f _ a⟩
def Q3{q n X}(a:eU q=true)(hX:r7 n X):Ft n (yc q X)=true:=List.all_eq_true.2 λi hi=>by
 obtain⟨b,c,d⟩:=hX i (List.mem_range.1 hi)
 show(bJ (eO q (X i).m (X i).L (X i).C).1 (eO q (X i).m (X i).L (X i).C).2&&bJ (dQ q (X i).m (X i).G (X i).C).1 (dQ q (X i).m (X i).G (X i).C).2)=true
 rw[y7 b c a,y8 b d a];rfl
def Hi(n g)(K)(S):((i_ n).all λi=>bt.free (aX g K S i))=true:=List.all_eq_true.2 λ_ _=>rfl
def Ob(q)(n)(S):ju {nw:=q.nw,C:=bG (au q.C),ng:=q.ng,G:=λj=>q.G j,a:=q.a,fl:=q.fl,nu:=q.nu,de:=q.de,top:=q.top} n S=ju q n S:=rfl
def Hj(q)(n)(S):cS {nw:=q.nw,C:=bG (au q.C),ng:=q.ng,G:=λj=>q.G j,a:=q.a,fl:=q.fl,nu:=q.nu,de:=q.de,top:=q.top} n S=cS q n S:=rfl
def Q4{q k F}(n)(X)(d:ct q=true)(c:cX k F=true)(e:(aV q F k).length=n)(tr:an n (lX q.ng n (fj q.ng (aV q F k))) (qN q.ng X))(b:n<=1000000)(Zn:Ft n (yc q X)=true)
  (lp:Zu PP II false (aD II 13 5001) 15 (QZ q n X (dK X) (jC q X) B 0) (Q0 q n (dK X) (jC q X))):kq [u5 q,uT,rZ q,Hg] [(5001,15,QZ q n X (dK X) (jC q X) B 0,Q0 q n (dK X) (jC q X))] 13 [.agg (aY q),cm k F] (λa=> ∀σ,AV.le σ a (N9 q n X)):=by
 have l:=jS c
 obtain⟨r1,f,m⟩:=mY d
 rw[Uz q k F n X (dK X) (jC q X) B,uo,jv,d,c,Ob,Hj,e,jt r1 f,ZK,Hi]
 rw[show nV (aX q.ng (dK X) (jC q X))=yc q X from rfl,Zn]
 have g:ie k (λi=>aF (F i))=true:=by
  unfold ie
  rw[gr,j_]
  exact List.all_eq_true.2 λi hi=>jR c i (List.mem_range.1 hi)
 have fl:=gU k F
 have a1:(u_ n n&&bt.free (aY q)&&true)=true:=by rw[ni];rfl
 have a2:(true&&true&&true&&v_ n 1000000)=true:=by rw[kV b];rfl
 refine cC _ _ A (cC _ _ (by rw[gr,bW O];rfl) (Zh (λh=>zE) λ_=>?_))
 refine cC _ _ (by rw[g,kV O];rfl) ⟨lp,?_⟩
 repeat' (first|with_reducible refine Zf A ?_|with_reducible refine YG A ?_|with_reducible refine Zi A ?_|with_reducible refine And.intro ?_ ?_|with_reducible exact bC _ _|with_reducible exact bO _ _|with_reducible exact aZ|with_reducible exact tr|with_reducible refine cC _ _ a2 ?_|with_reducible refine cC _ _ a1 ?_|refine cC _ _ a1 ?_)
 exactλσ=>⟨⟨rfl,rfl,λi _=>⟨⟨rfl,rfl,λj _=>⟨⟨rfl,rfl⟩,trivial⟩⟩,rfl,rfl,rfl,rfl,rfl,rfl,rfl,rfl,trivial⟩⟩,⟨rfl,rfl⟩,trivial⟩
def UA{q k F}(a:ct q=true)(b:cX k F=true):af PP II 13 [.agg (aY q),cm k F] HR (.ret (N9 q (aV q F k).length (og q (aV q F k))) HR):=by
 have d:=jS b
 have c:=(lG q F k).len
 have hX:=tm (mY a).2.2 b
 have lp:=Oa q (aV q F k).length (og q (aV q F k)) O a hX
 exact qh (Q4 _ _ a b A (qM _ _ _) O (Q3 (mY a).2.2 hX) lp)
def r8(q:Query)(k:Nat)(F:Nat->ay):Nat:=ju q (aV q F k).length (yc q (og q (aV q F k)))
def FM(q:Query)(k:Nat)(F:Nat->ay)(j:Nat):Nat->Int:=dK (og q (aV q F k)) (cS q (aV q F k).length (yc q (og q (aV q F k))) j)
def oU(q:Query)(k:Nat)(F:Nat->ay)(j:Nat):Nat->List UInt8:=jC q (og q (aV q F k)) (cS q (aV q F k).length (yc q (og q (aV q F k))) j)
def Q5(q:Query)(k:Nat)(F:Nat->ay):AV:=.bK [.az (r8 q k F) 9 (aX q.ng (FM q k F) (oU q k F)),.int a_ 0]
def Q6(q)(k)(F):N9 q (aV q F k).length (og q (aV q F k))=Q5 q k F:=rfl
def A8{q k F}(a:ct q=true)(b:cX k F=true):af PP II 13 [.agg (aY q),cm k F] HR (.ret (Q5 q k F) HR):=by
 rw[<-Q6]
 exact UA a b
def UB(n:Nat)(W V:Nat->Int)(i:Int):St:={t:=e_ [(0,.az n 1 (ae W)),(1,.az n 1 (ae V)),(5,.int a_ i)],nt:=26,H:=g_ 12,df:=[]}
def UC(b:Bool):GE:=.cond b (.one (.x 0 {t:=.e,nt:=26,H:=g_ 12,df:=[]})) (.one (.r {t:=e_ [(4,.bool false)],nt:=26,H:=g_ 12,df:=[]}))
def FN(n:Nat)(W V:Nat->Int)(b:Bool)(i:Int)(Q:Prop):(kr [] [] 16 4004 12 (UB n W V) (λ_=>UC b) (λi=>i+1) Q i)=(ah (z (i<b_ n)) (aa (z (0<=i)&&z (i<b_ n)) (aa (z (0<=i)&&z (i<b_ n)) (ah (!decide (W i.toNat=V i.toNat)) (ah b False (false=false/\True)) (aa (aN a_ (i+1)) (zyN n (zyR n (ae V) (zyI (i+1) (zyN n (zyR n (ae W) Q))))))))) (ah b True False)):=U
def Oc(n:Nat)(W V:Nat->Int)(b:Bool)(Q:AV->Prop):(kb [] [(4004,12,UB n W V 0,UC b)] 16 [.az n 1 (ae W),.az n 1 (ae V)] Q)=(ah (!decide (b_ n=b_ n)) (Q (s_ false)) (Zu PP II false (aD II 16 4004) 12 (UB n W V 0) (UC b)/\zyN n (zyR n (ae V) (zyN n (zyR n (ae W) (ah b (Q (s_ true)) (Q (s_ false)))))))):=U
def FO(a b c d e f:Int):ay:=⟨av a 40,av (d_ a 40) 3,av b 3,av (d_ b 3) 3,av c 4,av (d_ c 4) 4-1,d_ (av a 40) 10,av d 40,av d 40+av e 12,av f 40⟩
def UD(a b c d e f:Int)(Q:AV->Prop):(kb [gF] [] 37 [.agg [.int a_ a,.int a_ b,.int a_ c,.int a_ d,.int a_ e,.int a_ f]] Q)=(aa (aN a_ a&&true) (aa (z (a=a)) (aa (aN a_ (d_ a 40)) (aa (aN a_ (d_ a 40)&&true) (aa (z (b=b)) (aa (z (b=b)) (aa (aN a_ b&&true) (aa (z (b=b)) (aa (z (b=b)) (aa (z (b=b)) (aa (aN a_ (d_ b 3)) (aa (aN a_ (d_ b 3)&&true) (aa (z (c=c)) (aa (z (c=c)) (aa (z (c=c)) (aa (z (c=c)) (aa (aN a_ c&&true) (aa (z (c=c)) (aa (z (c=c)) (aa (z (c=c)) (aa (z (c=c)) (aa (z (c=c)) (aa (aN a_ (d_ c 4)) (aa (aN a_ (d_ c 4)&&true) (aa (aN a_ (av (d_ c 4) 4-1)) (aa (z (d=d)) (aa (z (d=d)) (aa (z (d=d)) (aa (z (d=d)) (aa (z (d=d)) (aa (z (d=d)) (aa (aN a_ d&&true) (aa (z (f=f)) (aa (z (f=f)) (aa (z (f=f)) (aa (z (f=f)) (aa (z (f=f)) (aa (z (f=f)) (aa (z (f=f)) (aa (aN a_ f&&true) (aa (aN a_ (d_ (av a 40) 10)) (aa (aN a_ e&&true) (aa (z (av d 40=av d 40)) (aa (aN a_ (av d 40+av e 12)) (Q (AV.agg [c_ a_ (av a 40),c_ a_ (av (d_ a 40) 3),c_ a_ (av b 3),c_ a_ (av (d_ b 3) 3),c_ a_ (av c 4),c_ a_ (av (d_ c 4) 4-1),c_ a_ (d_ (av a 40) 10),c_ a_ (av d 40),c_ a_ (av d 40+av e 12),c_ a_ (av f 40)])))))))))))))))))))))))))))))))))))))))))))))):=U
def A9(n:Nat)(W V:Nat->Int):Bool:=(i_ n).all λi=>z (W i=V i)
def FQ(n:Nat)(W V:Nat->Int)(l:n<=1000000):Zu PP II false (aD II 16 4004) 12 (UB n W V 0) (UC (A9 n W V)):=by
 have key:=Zu.of (ι:=Nat) iw [] (bm PP II []) 1000 (c:=aD II 16 4004) (ir:=false) 12 (λj=>j<=n/\∀k,k<j->W k=V k) (λj=>UB n W V (j:Int)) (λ_=>UC (A9 n W V)) (λj=>n-j) (λj=>j+1) 0 A ⟨o_ _,λk a=>absurd a (lZ _)⟩ λj d=>?_
 ·exact key
 obtain⟨d,f⟩:=d
 have go:∀(i:Int)(Q:Prop),i=(j:Int)->(j<n->W j=V j->Q)->kr [] [] 16 4004 12 (UB n W V) (λ_=>UC (A9 n W V)) (λj=>j+1) Q i:=λi Q hi hQ=>by
  rw[FN]
  have m:b_ n=(n:Int):=rfl
  have g:B i=j:=O
  rw[g]
  refine Zg (λh=>?_) λh=>?_
  ·have ha:(z (0<=i)&&z (i<b_ n))=true:=by simp only[bf,bn];omega
   refine cC _ _ ha (cC _ _ ha (Zl (λe=>?_) λe=>?_))
   ·have:A9 n W V=false:=by unfold A9;rw[List.all_eq_false];exact⟨j,List.mem_range.2 O,by simpa using e⟩
    rw[this];exact⟨rfl,trivial⟩
   ·exact cC _ _ (aq O O) (YG A ⟨bL _ _,Zf A (YG A ⟨bL _ _,hQ O e⟩)⟩)
  ·have:A9 n W V=true:=List.all_eq_true.2 λk a=>bW (f k (by have:=List.mem_range.1 a;omega))
   rw[this];trivial
 exact go (j:Int) _ A λb e=>⟨⟨b,λk a=>by by_cases h:k=j;exact h▸e;exact f k O⟩,O,rfl⟩
def Od{n:Nat}{W V:Nat->Int}(a:n<=1000000):af PP II 16 [.az n 1 (ae W),.az n 1 (ae V)] (g_ 12) (.ret (.bool (A9 n W V)) (g_ 12)):=by
 refine bY (ks:=[]) (T:=[(4004,12,UB n W V 0,UC (A9 n W V))]) (λ_=>rfl) ?_
 rw[Oc]
 refine wA A ⟨FQ n W V a,YG A ⟨bL _ _,YG A ⟨bL _ _,?_⟩⟩⟩
 cases A9 n W V<;>rfl
def FR:aC PP II:=aC.pure 16
 (λX args a=>match args with
  |[.az n 1 f,.az m 1 g]=>X.ak (bA n f&&bA m g&&v_ n 1000000&&u_ n m) (a (.bool (A9 n (aM f) (aM g))))
  |_=>X.fail)
 λX sem hX args a h=>by
  split at h
  ·obtain⟨b,c⟩:=hX.ak _ _ h
   simp only[bf]at b
   obtain⟨⟨⟨a1,a2⟩,d⟩,a4⟩:=b
   cases dE a4
   exact⟨_,c,λ_=>rfl,λ_=>rfl,af.dA (Od (jX d)) (cy a1) (cy a2)⟩
  ·exact zR
def UH{a b c d e f:Int}(ha:aN a_ a=true)(g:aN a_ b=true)(h:aN a_ c=true)(i:aN a_ d=true)(j:aN a_ e=true)(k:aN a_ f=true):
  af PP II 37 [.agg [.int a_ a,.int a_ b,.int a_ c,.int a_ d,.int a_ e,.int a_ f]] (g_ 12) (.ret (.agg (aF (FO a b c d e f))) (g_ 12)):=by
 refine bY (ks:=[gF]) (T:=[]) (λσ=>cL σ _) ?_
 rw[UD]
 have q:=cj (c:=d_ c 4) (n:=4) O
 have r:=cj (c:=a) (n:=40) O
 have s:=cj (c:=d) (n:=40) O
 have t:=cj (c:=e) (n:=12) O
 have l:aN a_ (av (d_ c 4) 4-1)=true:=aq O O
 have m:aN a_ (d_ (av a 40) 10)=true:=mM (aq O O) O
 have o:aN a_ (av d 40+av e 12)=true:=aq O O
 have t1:=mM ha (O:(0:Int)<40)
 have t2:=mM g (O:(0:Int)<3)
 have p:=mM h (O:(0:Int)<4)
 rw[ha,g,h,i,j,k,l,m,o,t1,t2,p]
 repeat' (first|exact A|refine cC _ _ A ?_|refine cC _ _ (bW A) ?_)
def Dk:aC PP II:=aC.pure 37
 (λX args g=>match args with
  |[.agg [.int a_ a,.int a_ b,.int a_ c,.int a_ d,.int a_ e,.int a_ f]]=>X.ak (aN a_ a&&aN a_ b&&aN a_ c&&aN a_ d&&aN a_ e&&aN a_ f) (g (.agg (aF (FO a b c d e f))))
  |_=>X.fail)
 λX sem hX args g h=>by
  split at h
  ·obtain⟨i,j⟩:=hX.ak _ _ h
   simp only[bf]at i
   obtain⟨⟨⟨⟨⟨a1,a2⟩,k⟩,a4⟩,l⟩,m⟩:=i
   exact⟨_,j,λ_=>rfl,λ_=>rfl,UH a1 a2 k a4 l m⟩
  ·exact zR
def fm(X:Nat->Nat->Int)(j:Nat):List AV:=[.int a_ (X j 0),.int a_ (X j 1),.int a_ (X j 2),.int a_ (X j 3),.int a_ (X j 4),.int a_ (X j 5)]
def YZ(n:Nat)(X:Nat->Nat->Int)(m:Int->Nat)(G:Int->Nat->ay)(i:Int):St:={t:=e_ [(0,.az n 6 (fm X)),(3,.own 12 (m i) 10),(4,.int a_ i)],nt:=94,H:={n:=13,t:=e_ [(12,.rows (m i) 10 (λj=>aF (G i j)) (.ty 48))]},df:=[]}
def Ya(n:Nat)(X:Nat->Nat->Int)(i:Int):St:={t:=e_ [(0,.az n 6 (fm X)),(3,.aw),(4,.int a_ i)],nt:=94,H:=g_ 12,df:=[]}
def FT(m:Nat)(G:Nat->ay):GE:=.one (.x 0 {t:=e_ [(3,.own 12 m 10)],nt:=94,H:={n:=13,t:=e_ [(12,.rows m 10 (λj=>aF (G j)) (.ty 48))]},df:=[]})
def Ki(n:Nat)(X:Nat->Nat->Int)(m:Nat)(G:Nat->ay)(i:Int)(x:ay)(j:Int):St:={t:=e_ [(0,.az n 6 (fm X)),(3,.own 12 m 10),(4,.int a_ i),(5,.ptr 13 0 0 0),(6,.int a_ j)],nt:=94,H:={n:=14,t:=e_ [(12,.rows m 10 (λj=>aF (G j)) (.ty 48)),(13,.cells (aF x) (.ty 48))]},df:=[]}
def Of(n:Nat)(X:Nat->Nat->Int)(m:Nat)(G:Nat->ay)(i:Int)(x:ay)(a:Int):GE:=.one (.x 2 (Ki n X m G i x a))
def W1(n:Nat)(X:Nat->Nat->Int)(m:Nat)(G:Nat->ay)(i:Int)(x:ay)(a:Int)(j:Int)(Q:Prop):(kr [] [] 12 7034 14 (Ki n X m G i x) (λ_=>Of n X m G i x a) (λj=>j+1) Q j)=(let c:=(zyI x.t (zyI x.s (zyI x.v (zyI x.w (zyI x.o (zyI x.p (zyI x.d (zyI x.l (zyI x.h (zyI x.b (zyN m ((an m (λj=>aF (G j)) λj=>aF (G j))/\zyN m (zyN n (zyR n (fm X) (zyI i (aH j a True))))))))))))))));let e:=(aa (aN a_ (j+1)) (zyI x.t (zyI x.s (zyI x.v (zyI x.w (zyI x.o (zyI x.p (zyI x.d (zyI x.l (zyI x.h (zyI x.b (zyN m ((an m (λj=>aF (G j)) λj=>aF (G j))/\zyN m (zyN n (zyR n (fm X) (zyI i (zyI (j+1) Q)))))))))))))))));(ah (z (j<b_ m)) (aa (z (0<=j)&&z (j<b_ m)) (aa (z (j.toNat<m)) (ah (z (ay.t (G j.toNat)<x.t)) e (aa (z (0<=j)&&z (j<b_ m)) (aa (z (j.toNat<m)) (ah (z (ay.t (G j.toNat)=x.t)) (aa (z (0<=j)&&z (j<b_ m)) (aa (z (j.toNat<m)) (ah (z (ay.s (G j.toNat)<x.s)) e c))) c)))))) c)):=U
def sF(n:Nat)(X:Nat->Nat->Int)(m:Int->Nat)(G:Int->Nat->ay)(p:Bool×Int):St:=match p.1 with
 |true=>YZ n X m G p.2
 |false=>Ya n X p.2
def Hk(n:Nat)(X:Nat->Nat->Int)(m:Int->Nat)(G:Int->Nat->ay)(x:ay)(a:Int)(M:Nat)(Z:Nat->ay)(i:Int)(Q:Prop):(kr (ι:=Bool×Int) [Dk] [(7034,14,Ki n X (m i) (G i) i x 0,Of n X (m i) (G i) i x a)] 12 3008 12 (sF n X m G) (λ_=>FT M Z) (λp=>(true,p.2+1)) Q (true,i))=(let f:=(aa (z (0<=a)&&z (a<=a)&&z (a<=b_ (m i))&&z (0<m i)) (aa (z (0<=a)&&z (a<=b_ (m i))&&z (b_ (m i)<=b_ (m i))&&z (0<m i)) (aa (z (a.toNat+B (b_ (m i)-a)<=m i)&&true&&z ((1+B (b_ (m i)-a))*80<=140737488355328)&&true) (ah (z (B (b_ (m i)-a)=0)) (aa (z (0<=a)&&z (a<=a)&&z (a<=b_ (m i))&&z (0<m i)) (aa (z (B (a-0)=B (a-0))&&z (some (B (a-0))=Option.some (B (a-0)))&&true) (aa (z (0+B (a-0)<=m i)&&true&&true&&z ((B (a-0)+1)*80<=140737488355328)&&true) (ah (z (B (a-0)=B (a-0))) (aa (aN a_ (i+1)) (ax (B (a-0)+1) (m (i+1)) ((an (B (a-0)+1) (λc=>bif f_ c (B (a-0))then aF (G i (0+c))else l_ 10 (m_ (0+(c-B (a-0))*10) [c_ a_ x.t,c_ a_ x.s,c_ a_ x.v,c_ a_ x.w,c_ a_ x.o,c_ a_ x.p,c_ a_ x.d,c_ a_ x.l,c_ a_ x.h,c_ a_ x.b])) λj=>aF (G (i+1) j))/\ax (B (a-0)+1) (m (i+1)) (zyN n (zyR n (fm X) (zyI (i+1) Q)))))) (aa (aN a_ (i+1)) (ax (B (a-0)+1) (m (i+1)) ((an (B (a-0)+1) (λc=>bif f_ c (B (a-0))then aF (G i (0+c))else l_ 10 (m_ (0+(c-B (a-0))*10) [c_ a_ x.t,c_ a_ x.s,c_ a_ x.v,c_ a_ x.w,c_ a_ x.o,c_ a_ x.p,c_ a_ x.d,c_ a_ x.l,c_ a_ x.h,c_ a_ x.b])) λj=>aF (G (i+1) j))/\ax (B (a-0)+1) (m (i+1)) (zyN n (zyR n (fm X) (zyI (i+1) Q)))))))))) (aa (z (0<=a)&&z (a<=a)&&z (a<=b_ (m i))&&z (0<m i)) (aa (z (B (a-0)=B (a-0))&&z (some (B (a-0))=Option.some (B (a-0)))&&true) (aa (z (0+B (a-0)<=m i)&&z (1+B (b_ (m i)-a)<=1+B (b_ (m i)-a))&&true&&z ((B (a-0)+(1+B (b_ (m i)-a)))*80<=140737488355328)&&true) (ah (z (1+B (b_ (m i)-a)=0)) (aa (aN a_ (i+1)) (ax (m (i+1)) 0 False)) (ah (z (B (a-0)=B (a-0))) (aa (aN a_ (i+1)) (ax (B (a-0)+(1+B (b_ (m i)-a))) (m (i+1)) ((an (B (a-0)+(1+B (b_ (m i)-a))) (λc=>bif f_ c (B (a-0))then aF (G i (0+c))else bif f_ (c-B (a-0)) 1 then l_ 10 (m_ (0+(c-B (a-0))*10) [c_ a_ x.t,c_ a_ x.s,c_ a_ x.v,c_ a_ x.w,c_ a_ x.o,c_ a_ x.p,c_ a_ x.d,c_ a_ x.l,c_ a_ x.h,c_ a_ x.b])else aF (G i (a.toNat+(c-B (a-0)-1)))) λj=>aF (G (i+1) j))/\ax (B (a-0)+(1+B (b_ (m i)-a))) (m (i+1)) (zyN n (zyR n (fm X) (zyI (i+1) Q)))))) (aa (aN a_ (i+1)) (ax (B (a-0)+(1+B (b_ (m i)-a))) (m (i+1)) ((an (B (a-0)+(1+B (b_ (m i)-a))) (λc=>bif f_ c (B (a-0))then aF (G i (0+c))else bif f_ (c-B (a-0)) 1 then l_ 10 (m_ (0+(c-B (a-0))*10) [c_ a_ x.t,c_ a_ x.s,c_ a_ x.v,c_ a_ x.w,c_ a_ x.o,c_ a_ x.p,c_ a_ x.d,c_ a_ x.l,c_ a_ x.h,c_ a_ x.b])else aF (G i (a.toNat+(c-B (a-0)-1)))) λj=>aF (G (i+1) j))/\ax (B (a-0)+(1+B (b_ (m i)-a))) (m (i+1)) (zyN n (zyR n (fm X) (zyI (i+1) Q)))))))))))))));let e:=(FO (X i.toNat 0) (X i.toNat 1) (X i.toNat 2) (X i.toNat 3) (X i.toNat 4) (X i.toNat 5));let g:=(ax (m i) M ((an (m i) (λj=>aF (G i j)) λj=>aF (Z j))/\ax (m i) M True));let k:=(z (0<=a)&&z (a<b_ (m i)));(ah (z (i<b_ n)) (ah (z (i<24)) (aa (z (0<=i)&&z (i<b_ n)) (aa (aN a_ (X i.toNat 0)&&aN a_ (X i.toNat 1)&&aN a_ (X i.toNat 2)&&aN a_ (X i.toNat 3)&&aN a_ (X i.toNat 4)&&aN a_ (X i.toNat 5)) (Zu PP II false (aD II 12 7034) 14 (Ki n X (m i) (G i) i x 0) (Of n X (m i) (G i) i x a)/\aH (ay.t e) x.t (aH (ay.s e) x.s (aH (ay.v e) x.v (aH (ay.w e) x.w (aH (ay.o e) x.o (aH (ay.p e) x.p (aH (ay.d e) x.d (aH (ay.l e) x.l (aH (ay.h e) x.h (aH (ay.b e) x.b (zyN (m i) ((an (m i) (λj=>aF (G i j)) λj=>aF (G i j))/\zyN (m i) (zyN n (zyR n (fm X) (zyI i (ah (z (a<b_ (m i))) (aa k (aa (z (a.toNat<m i)) (ah (z (ay.t (G i a.toNat)=x.t)) (aa k (aa (z (a.toNat<m i)) (ah (z (ay.s (G i a.toNat)=x.s)) (aa (aN a_ (i+1)) (ax (m i) (m (i+1)) ((an (m i) (λj=>aF (G i j)) λj=>aF (G (i+1) j))/\ax (m i) (m (i+1)) (zyN n (zyR n (fm X) (zyI (i+1) Q)))))) f))) f))) f)))))))))))))))))) g) g)):=U
def Dn(n:Nat)(X:Nat->Nat->Int)(m:Int->Nat)(G:Int->Nat->ay)(M:Nat)(Z:Nat->ay)(i:Int)(Q:Prop):(kr (ι:=Bool×Int) [Dk] [] 12 3008 12 (sF n X m G) (λ_=>FT M Z) (λp=>(true,p.2+1)) Q (false,i))=(let a:=(FO (X i.toNat 0) (X i.toNat 1) (X i.toNat 2) (X i.toNat 3) (X i.toNat 4) (X i.toNat 5));(ah (z (i<b_ n)) (ah (z (i<24)) (aa (z (0<=i)&&z (i<b_ n)) (aa (aN a_ (X i.toNat 0)&&aN a_ (X i.toNat 1)&&aN a_ (X i.toNat 2)&&aN a_ (X i.toNat 3)&&aN a_ (X i.toNat 4)&&aN a_ (X i.toNat 5)) (aa (aN a_ (i+1)) (ax 10 (m (i+1)*10) ((an (m (i+1)) (fW [c_ a_ (ay.t a),c_ a_ (ay.s a),c_ a_ (ay.v a),c_ a_ (ay.w a),c_ a_ (ay.o a),c_ a_ (ay.p a),c_ a_ (ay.d a),c_ a_ (ay.l a),c_ a_ (ay.h a),c_ a_ (ay.b a)] 10) λj=>aF (G (i+1) j))/\ax 1 (m (i+1)) (zyN n (zyR n (fm X) (zyI (i+1) Q)))))))) (ax M 0 (ax M 0 True))) (ax M 0 (ax M 0 True)))):=U
def W2(n:Nat)(X:Nat->Nat->Int)(m:Int->Nat)(G:Int->Nat->ay)(M:Nat)(Z:Nat->ay)(Q:AV->Prop):(kb [] [(3008,12,sF n X m G (false,0),FT M Z)] 12 [.az n 6 (fm X)] Q)=(Zu PP II false (aD II 12 3008) 12 (sF n X m G (false,0)) (FT M Z)/\zyN n (zyR n (fm X) (aa ((List.all (List.range.loop M []) λi=>true)&&z (M<=M)) (Q (AV.az M 10 λj=>aF (Z j)))))):=U
def JS(a b:ay):Bool:=z (a.t<b.t)||(z (a.t=b.t)&&z (a.s<b.s))
def ku(x:ay)(G:Nat->ay)(m:Nat):Nat:=((i_ m).find? λk=>!JS (G k) x).getD m
def qO(x:ay)(G:Nat->ay)(m:Nat):ku x G m<=m/\(∀k,k<ku x G m->JS (G k) x=true)/\(ku x G m<m->JS (G (ku x G m)) x=false):=by
 unfold ku
 cases h:(i_ m).find? λk=>!JS (G k) x with
 |none=>
  rw[List.find?_range_eq_none]at h
  exact⟨dw _,λk a=>by have:=h k a;simpa using this,λa=>absurd a (HD _)⟩
 |some j=>
  rw[List.find?_range_eq_some]at h
  obtain⟨c,b,d⟩:=h
  have b:=List.mem_range.1 b
  exact⟨Nat.le_of_lt b,λk a=>by have:=d k a;simpa using this,λ_=>by show JS (G j) x=false;simpa using c⟩
def oV(a b:ay):Bool:=z (a.t=b.t)&&z (a.s=b.s)
def Ba(a:Nat)(x:ay)(G:Nat->ay)(j:Nat):ay:=if j<a then G j else if j=a then x else G (j-1)
def xk(x:ay)(S:Nat×(Nat->ay)):Nat×(Nat->ay):=
 bif f_ (ku x S.2 S.1) S.1&&oV (S.2 (ku x S.2 S.1)) x then S else(S.1+1,Ba (ku x S.2 S.1) x S.2)
def fU(X:Nat->Nat->Int)(i:Nat):ay:=FO (X i 0) (X i 1) (X i 2) (X i 3) (X i 4) (X i 5)
def gp(X:Nat->Nat->Int):Nat->Nat×(Nat->ay)
 |0=>(0,λ_=>⟨0,0,0,0,0,0,0,0,0,0⟩)
 |i+1=>xk (fU X i) (gp X i)
def Bb(x y:ay):Prop:=x.t<y.t∨(x.t=y.t/\x.s<y.s)
def Q8{a b:ay}:JS a b=true↔Bb a b:=by
 unfold JS Bb
 simp only[r_,bf,bn]
def y9(x y:ay):lr x y<0↔Bb x y:=by
 unfold lr Bb U9 sP
 by_cases h1:x.t<y.t
 ·simp[h1]
 ·by_cases c:x.t>y.t
  ·simp[h1,c];omega
  ·have e:x.t=y.t:=by omega
   by_cases a:x.s<y.s
   ·simp[e,a]
   ·by_cases b:x.s>y.s
    ·simp[e,a,b]
    ·simp[e,a,b]
def zc{F:Nat->ay}:∀k,(∀j,j+1<=k->Bb (F j) (F (j+1)))->fL F k=true
 |0,_=>rfl
 |k+1,h=>by
  show(!decide (lr (F (k+1)) (F k)<0)&&fL F k)=true
  rw[zc k λj a=>h j O,k_,p_,iK,y9]
  have:=h k (dw _)
  unfold Bb at this⊢
  omega
structure Good (m:Nat) (a:Nat->ay):Prop where
 val:∀k,k<m->bB (a k)=true
 ord:∀k,k+1<m->Bb (a k) (a (k+1))
def Good.UI{m:Nat}{G:Nat->ay}(h:Good m G)(b:m<=400):cX m G=true:=by
 unfold cX
 rw[bW b,zc _ λj c=>h.ord j O,k_,k_]
 refine List.all_eq_true.2 λk a=>?_
 have a:=List.mem_range.1 a
 cases k with
 |zero=>unfold sQ;rw[h.val _ a];rfl
 |succ k=>
  show(bB (G (k+1))&& !decide (lr (G k) (G (k+1))>=0))=true
  rw[h.val _ a,j_,p_,iK]
  have:=(y9 _ _).2 (h.ord k a)
  omega
def FU(X:Nat->Nat->Int)(i:Nat):bB (fU X i)=true:=by
 have p0:=cj (c:=X i 0) (n:=40) O
 have a:=cj (c:=d_ (X i 0) 40) (n:=3) O
 have b:=cj (c:=X i 1) (n:=3) O
 have d:=cj (c:=d_ (X i 1) 3) (n:=3) O
 have e:=cj (c:=X i 2) (n:=4) O
 have f:=cj (c:=d_ (X i 2) 4) (n:=4) O
 have g:=cj (c:=X i 3) (n:=40) O
 have h:=cj (c:=X i 4) (n:=12) O
 have j:=cj (c:=X i 5) (n:=40) O
 unfold fU FO bB
 simp only[bf,bn]
 and_intros<;>first|omega|trivial
def JT{x:ay}{S:Nat×(Nat->ay)}(hx:bB x=true)(h:Good S.1 S.2):Good (xk x S).1 (xk x S).2:=by
 obtain⟨g,d,b⟩:=qO x S.2 S.1
 unfold xk
 cases c:f_ (ku x S.2 S.1) S.1&&oV (S.2 (ku x S.2 S.1)) x with
 |true=>exact h
 |false=>
  simp only[cond_false]
  generalize ku x S.2 S.1=a at*
  refine⟨λk e=>?_,λk e=>?_⟩
  ·simp only[Ba]
   split
   ·exact h.val k O
   ·split
    ·exact hx
    ·exact h.val _ O
  ·simp only[Ba]
   by_cases c1:k+1<a
   ·rw[if_pos O,if_pos c1];exact h.ord k O
   ·by_cases c2:k+1=a
    ·rw[if_pos O,if_neg c1,if_pos c2];exact Q8.1 (d k O)
    ·rw[if_neg (O:¬ k<a),if_neg c1,if_neg c2]
     by_cases c3:k=a
     ·rw[if_pos c3]
      have ha:a<S.1:=O
      have b:=b ha
      have f:f_ a S.1=true:=by rw[t_];exact ha
      rw[f,j_]at c
      show Bb x (S.2 (k+1-1))
      rw[Nat.add_sub_cancel,c3]
      unfold JS at b
      unfold oV at c
      unfold Bb
      simp only[h_,n_,iK]at b c
      omega
     ·rw[if_neg c3]
      have:=h.ord (k-1) O
      rw[show k-1+1=k by omega]at this
      exact this
def zd(X:Nat->Nat->Int):∀i,Good (gp X i).1 (gp X i).2
 |0=>⟨λk a=>absurd a (lZ _),λk a=>absurd a (lZ _)⟩
 |i+1=>JT (FU X i) (zd X i)
def Bc(X:Nat->Nat->Int):∀i,(gp X i).1<=i/\(gp X i).1<=(gp X (i+1)).1/\0<(gp X (i+1)).1
 |i=>by
  have a:∀i,(gp X i).1<=(gp X (i+1)).1/\(gp X (i+1)).1<=(gp X i).1+1/\0<(gp X (i+1)).1:=λi=>by
   show(gp X i).1<=(xk (fU X i) (gp X i)).1/\(xk (fU X i) (gp X i)).1<=(gp X i).1+1/\0<(xk (fU X i) (gp X i)).1
   unfold xk
   cases b:f_ (ku (fU X i) (gp X i).2 (gp X i).1) (gp X i).1&&oV ((gp X i).2 (ku (fU X i) (gp X i).2 (gp X i).1)) (fU X i)with
   |true=>
    rw[bf,t_]at b
    simp only[cond_true];omega
   |false=>simp only[cond_false];omega
  have le:∀i,(gp X i).1<=i:=λi=>by
   induction i with
   |zero=>exact dw _
   |succ i c=>have:=a i;omega
  exact⟨le i,(a i).1,(a i).2.2⟩
def u6(n:Nat)(X:Nat->Nat->Int):an n (fm X) (fm X):=Zj λ_ _=>⟨⟨rfl,rfl⟩,⟨rfl,rfl⟩,⟨rfl,rfl⟩,⟨rfl,rfl⟩,⟨rfl,rfl⟩,⟨rfl,rfl⟩,trivial⟩
def Bd(m:Nat)(G:Nat->ay):an m (λj=>aF (G j)) λj=>aF (G j):=Zj λ_ _=>cL _ _
def Og(n:Nat)(X:Nat->Nat->Int)(m:Nat)(G:Nat->ay)(i:Int)(x:ay)(r:m<=1000):Zu PP II false (aD II 12 7034) 14 (Ki n X m G i x 0) (Of n X m G i x (ku x G m:Nat)):=by
 obtain⟨s,l,f⟩:=qO x G m
 generalize ku x G m=a at*
 have key:=Zu.of (ι:=Nat) iw [] (bm PP II []) 1000 (c:=aD II 12 7034) (ir:=false) 14 (λj=>j<=a) (λj=>Ki n X m G i x (j:Int)) (λ_=>Of n X m G i x (a:Int)) (λj=>m-j) (λj=>j+1) 0 A (o_ _) λj g=>?_
 ·exact key
 have g:j<=a:=g
 have go:∀(J:Int)(Q:Prop),J=(j:Int)->(j<a->j<m->Q)->kr [] [] 12 7034 14 (Ki n X m G i x) (λ_=>Of n X m G i x (a:Int)) (λj=>j+1) Q J:=λJ Q t hQ=>by
  rw[W1]
  have u:b_ m=(m:Int):=rfl
  have o:B J=j:=O
  rw[o]
  have fr:=Bd m G
  have xr:=u6 n X
  have out:∀{Z:Prop},j=a->(J=(a:Int)->Z)->Z:=λe h=>h O
  refine Zg (λh=>?_) λh=>?_
  ·have ha:(z (0<=J)&&z (J<b_ m))=true:=by simp only[bf,bn];omega
   have d:z (j<m)=true:=bW O
   refine cC _ _ ha (cC _ _ d (Zg (λb=>?_) λb=>cC _ _ ha (cC _ _ d (Zg (λk=>cC _ _ ha (cC _ _ d (Zg (λp=>?_) λp=>?_))) λk=>?_))))
   ·have:j<a:=by
     by_cases e:j=a
     ·have:=f O
      rw[<-e]at this
      unfold JS at this
      simp only[h_,iK]at this
      exact absurd b this.1
     ·omega
    have q:=hQ this O
    refine cC _ _ (aq O O) ?_
    exact ZF
   ·have:j<a:=by
     by_cases e:j=a
     ·have:=f O
      rw[<-e]at this
      unfold JS at this
      simp only[h_,n_,iK]at this
      omega
     ·omega
    have q:=hQ this O
    refine cC _ _ (aq O O) ?_
    exact ZF
   all_goals
    have e:J=(a:Int):=by
     by_cases e:j=a
     ·omega
     ·have:=l j O
      unfold JS at this
      simp only[r_,bf,bn]at this
      omega
    exact ZG
  ·have e:J=(a:Int):=by omega
   exact ZG
 exact go (j:Int) _ A λb k=>⟨b,O,rfl⟩
end
end Go.Sx
