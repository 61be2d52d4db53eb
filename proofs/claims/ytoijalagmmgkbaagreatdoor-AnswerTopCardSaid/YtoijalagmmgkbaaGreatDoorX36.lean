/- The proof of a statement of the seat, part 36. -/
import Derived.Test.YtoijalagmmgkbaaGreatDoorX35
import Derived.Test.YtoijalagmmgkbaaGreatDoorX20
import Derived.Test.YtoijalagmmgkbaaGreatDoorX11
import Derived.Test.YtoijalagmmgkbaaGreatDoorX30
import Derived.Test.YtoijalagmmgkbaaGreatDoorX28
set_option linter.all false
set_option linter.defProp false
set_option maxRecDepth 1000000
namespace Go.Sx
open Go
open Decidable renaming decide->B
open Int renaming toNat->z,ofNat->a_,tdiv->d_,tmod->n_
open Go.IntKind renaming i64->b_
open AV renaming int->c_,bool->t_
open Tr renaming ofList->e_
open Nat renaming blt->f_,zero_le->o_,blt_eq->u_,beq->w_,ble->x_
open AH renaming blank->g_
open List renaming range->h_,take->j_,drop->k_,all->v_
open Bool renaming or_eq_false_iff->i_,and_true->l_,not_eq_true'->m_,true_and->p_,and_eq_false_iff->q_,or_eq_true->s_
noncomputable section
def Dg(W):∀k,0<k->∃i,i<k/\jc W k=W i
 |0,h=>O
 |1,_=>⟨0,O,by show(if W 0<W 0 then W 0 else W 0)=W 0;split<;>rfl⟩
 |k+2,_=>by
  obtain⟨i,hi,e⟩:=Dg W (k+1) O
  show ∃i,i<k+2/\(if W (k+1)<jc W (k+1)then W (k+1)else jc W (k+1))=W i
  grind
def Dh(W):∀k,0<k->∃i,i<k/\cG W k=W i
 |0,h=>O
 |1,_=>⟨0,O,by show(if W 0>W 0 then W 0 else W 0)=W 0;split<;>rfl⟩
 |k+2,_=>by
  obtain⟨i,hi,e⟩:=Dh W (k+1) O
  show ∃i,i<k+2/\(if W (k+1)>cG W (k+1)then W (k+1)else cG W (k+1))=W i
  grind
def jx{x}(h:bB x=true):(0<=x.l/\x.l<=x.h/\x.h<=4398046511104)/\0<=x.b/\x.b<=24000:=by
 unfold bB at h
 grind
def xh{q x}(b:bB x=true){m}(a:m<jQ q x):0<=fT q x m/\fT q x m<=4398046511104:=by
 obtain⟨⟨c,d,e⟩,_⟩:=jx b
 have a:m<(NH q x (3*(q.nw+2))).length:=a
 have:fT q x m∈NH q x (3*(q.nw+2)):=by
  unfold fT
  rw[List.getD_eq_getElem?_getD,mo a]
  exact List.getElem_mem _
 have:=QP this
 unfold qS xG at this
 grind
def xi{q x}(f:eU q=true)(c:bB x=true)(d:gk q x=true):0<=kR q x/\kR q x<=4398046511104:=by
 obtain⟨⟨g,h,j⟩,k,m⟩:=jx c
 unfold kR
 rw[d]
 show 0<=(if q.a=1 then 1 else if q.fl=7 then x.b else match jA q x with|true=>x.l|false=>jc (fT q x) (jQ q x))/\(if q.a=1 then 1 else if q.fl=7 then x.b else match jA q x with|true=>x.l|false=>jc (fT q x) (jQ q x))<=4398046511104
 split
 ·omega
 ·split
  ·omega
  ·split
   ·omega
   ·obtain⟨i,hi,e⟩:=Dg (fT q x) (jQ q x) (wX f d)
    rw[e];exact xh c hi
def FL{q x}(f:eU q=true)(c:bB x=true)(d:gk q x=true):0<=lJ q x/\lJ q x<=4398046511104:=by
 obtain⟨⟨g,j,k⟩,l,m⟩:=jx c
 unfold lJ
 rw[d]
 show 0<=(if q.a=1 then 1 else if q.fl=7 then x.b else match jA q x with|true=>x.h|false=>cG (fT q x) (jQ q x))/\(if q.a=1 then 1 else if q.fl=7 then x.b else match jA q x with|true=>x.h|false=>cG (fT q x) (jQ q x))<=4398046511104
 split
 ·omega
 ·split
  ·omega
  ·split
   ·omega
   ·obtain⟨i,hi,e⟩:=Dh (fT q x) (jQ q x) (wX f d)
    rw[e];exact xh c hi
def xj{W m v}(h:fA W m)(a:0<=v/\v<=4398046511104):fA (gV W m v) (m+1):=λi hi=>by
 unfold gV
 by_cases e:i=m
 omega
 ·rw[if_neg e];exact h i O
structure Di (gs:List bj) (n:Nat):Prop where
 ms:∀a,a<gs.length->(aK gs a).m<=n
 lo:∀a,a<gs.length->fA (aK gs a).L (aK gs a).m
 hi:∀a,a<gs.length->fA (aK gs a).G (aK gs a).m
def y6{q}(F)(b:eU q=true):∀i,(∀j,j<i->bB (F j)=true)->Di (aV q F i) i
 |0,_=>⟨λj a=>absurd a (by simp[aV]),λj a=>absurd a (by simp[aV]),λj a=>absurd a (by simp[aV])⟩
 |i+1,c=>by
  obtain⟨k,d,e⟩:=y6 F b i λj a=>c j O
  show Di (km q (aV q F i) i (F i)) (i+1)
  unfold km
  cases hp:gk q (F i)with
  |false=>exact⟨Y,d,e⟩
  |true=>
   simp only[cond_true]
   have f:=xi b (c i O) hp
   have g:=FL b (c i O) hp
   split
   ·rename_i j a
    obtain⟨a,_⟩:=lF a
    refine⟨λl hl=>?_,λl hl=>?_,λl hl=>?_⟩
    all_goals
     rw[List.length_set]at hl
     rw[gg a]
     by_cases h:l=j
    grind
    grind
    ·rw[if_pos h];exact xj (d j a) f
    grind
    ·rw[if_pos h];exact xj (e j a) g
    grind
   ·refine⟨λl hl=>?_,λl hl=>?_,λl hl=>?_⟩
    all_goals
     simp only[List.length_append,List.length_cons,List.length_nil]at hl
     rw[gh]
     by_cases h:l=(aV q F i).length
    grind
    grind
    ·rw[if_pos h];exactλ_ _=>f
    grind
    ·rw[if_pos h];exactλ_ _=>g
    grind
def y7{q k W C}(d:k<=1000)(a:fA W k)(b:eU q=true):bJ (eO q k W C).1 (eO q k W C).2=true:=by
 unfold eO
 have h:=mU C k
 split
 ·obtain⟨j,f,e⟩:=zK (better:=λc=>B (c<0)) (R:=bN q (aP C k) (bS C W k) (bQ (aP (λi=>!C i) k) (bS (λi=>!C i) W k))) (aP (λi=>!C i) k)
  rw[e]
  have g:=dn O (pI (fR (p:=C) a) (kP (fR (p:=λi=>!C i) a)))
  cases j with
  |zero=>exact cz (dn O (fR a)) b
  |succ j=>exact cz (dD g O) b
 ·obtain⟨j,f,e⟩:=zK (better:=λc=>B (c<0)) (R:=br q (bQ k W)) k
  rw[e]
  cases j with
  |zero=>exact cz (k:=0) (W:=λ_=>0) A b
  |succ j=>exact cz (dD (dn d (kP a)) O) b
def y8{q k W C}(d:k<=1000)(a:fA W k)(b:eU q=true):bJ (dQ q k W C).1 (dQ q k W C).2=true:=by
 unfold dQ
 have h:=mU C k
 split
 ·obtain⟨j,f,e⟩:=zK (better:=λc=>B (c>0)) (R:=bN q (aP C k) (bS C W k) (cK (aP (λi=>!C i) k) (bS (λi=>!C i) W k))) (aP (λi=>!C i) k)
  rw[e]
  have g:=dn O (pI (fR (p:=C) a) (kQ (fR (p:=λi=>!C i) a)))
  cases j with
  |zero=>exact cz (dn O (fR a)) b
  |succ j=>exact cz (dD g O) b
 ·obtain⟨j,f,e⟩:=zK (better:=λc=>B (c>0)) (R:=br q (cK k W)) k
  rw[e]
  cases j with
  |zero=>exact cz (k:=0) (W:=λ_=>0) A b
  |succ j=>exact cz (dD (dn d (kQ a)) O) b
def yc(q:Query)(X:Nat->bj):Nat->Nat->List UInt8:=nV (aX q.ng (dK X) (jC q X))
def N9(q:Query)(n:Nat)(X:Nat->bj):AV:=.bK [.az (ju q n (yc q X)) 9 (aX q.ng (λj=>dK X (cS q n (yc q X) j)) λj=>jC q X (cS q n (yc q X) j)),.int b_ 0]
def uo(F):(bP λi=>aF (F i))=F:=rfl
def jR{k F}(h:cX k F=true):∀i,i<k->bB (F i)=true:=by
 unfold cX at h
 simp only[bf,bn]at h
 intro i hi
 have:=List.all_eq_true.1 h.1.1 i (List.mem_range.2 hi)
 unfold sQ at this
 grind
def jS{k F}(h:cX k F=true):k<=400:=by
 unfold cX at h
 grind
def r7(n:Nat)(X:Nat->bj):Prop := ∀i,i<n->(X i).m<=1000/\fA (X i).L (X i).m/\fA (X i).G (X i).m
def JQ(q)(n)(X)(i)(hi:i<n)(l:n<=1000000)(c:ct q=true)(hX:r7 n X)(j)(m:j=(i:Int))(Q)(hQ:Q):
  kr [r6 q] [] 13 5001 15 (QZ q n X (dK X) (jC q X) z) (λ_=>Q0 q n (dK X) (jC q X)) (λi=>i+1) Q j:=by
 rw[Df]
 obtain⟨b,hL,hG⟩:=hX i hi
 have d:z j=i:=O
 have e:z (j+1)=i+1:=O
 have o:a_ n=(n:Int):=rfl
 rw[d,e]
 have f:ka (bi (X i).L (X i).G (X i).C)=(X i).L:=rfl
 have g:iF (bi (X i).L (X i).G (X i).C)=(X i).G:=rfl
 have h:iG (bi (X i).L (X i).G (X i).C)=(X i).C:=rfl
 rw[f,g,h,jv,c,rS,dn b hL,dn b hG]
 have rows:=AZ q.ng (dK X) (dK X) (jC q X) (jC q X) i i A A
 have rr:=eP (i+1) q.ng (dK X) (jC q X)
 have tr:an n (qN q.ng X) (qN q.ng X):=λi _ σ=>⟨⟨⟨⟨rfl,rfl,λj _=>jw _ _ j⟩,⟨rfl,rfl,λj _=>kS _ _ _ _ j⟩,⟨rfl,rfl,λj _=>jw _ _ j⟩,trivial⟩,rfl⟩,trivial⟩
 have k:(B (i<=i)&&true&&true&&B ((i+1)*152<=140737488355328)&&true)=true:=by rw[bW (dw i),bW O];rfl
 have a:aN b_ (j+1)=true:=aq O O
 refine Zg (λ_=>?_) O
 refine cC _ _ Y (cC _ _ A (cC _ _ k (cC _ _ a ?_)))
 repeat' (first|with_reducible refine Zf A ?_|with_reducible refine YG A ?_|with_reducible refine Zi A ?_|with_reducible refine And.intro ?_ ?_|with_reducible exact bC _ _|with_reducible exact bO _ _|with_reducible exact aZ|assumption|assumption|exact rows|exact tr)
def Q2(q)(n:Nat)(X)(j)(b:j=(n:Int))(Q):
  kr [r6 q] [] 13 5001 15 (QZ q n X (dK X) (jC q X) z) (λ_=>Q0 q n (dK X) (jC q X)) (λi=>i+1) Q j:=by
 rw[Df]
 have a:z j=n:=O
 have c:a_ n=(n:Int):=rfl
 rw[a]
 have rr:=eP n q.ng (dK X) (jC q X)
 refine Zg O (λ_=>?_)
 repeat' (first|with_reducible refine Zf A ?_|with_reducible refine YG A ?_|with_reducible refine Zi A ?_|with_reducible refine And.intro ?_ ?_|with_reducible exact bC _ _|with_reducible exact bO _ _|with_reducible exact aZ|grind|simp)
def Oa(q)(n)(X)(a:n<=1000000)(b:ct q=true)(hX:r7 n X):gW PP II false (aD II 13 5001) 15 (QZ q n X (dK X) (jC q X) z 0) (Q0 q n (dK X) (jC q X)):=by
 have key:=gW.of (ι:=Int) iw [r6 q] (bm PP II []) 1000 (c:=aD II 13 5001) (ir:=false) 15 (λj=> ∃i:Nat,j=(i:Int)/\i<=n) (λj=>QZ q n X (dK X) (jC q X) z j) (λ_=>Q0 q n (dK X) (jC q X)) (λj=>n-j.toNat) (λj=>j+1) 0 A ⟨0,rfl,o_ _⟩ λj d=>?_
 ·exact key
 obtain⟨i,hi,e⟩:=d
 by_cases h:i<n
 ·exact JQ q n X i h a b hX j hi _ Y
 ·exact Q2 q n X j O _
def tm{q k F}(c:eU q=true)(b:cX k F=true):r7 (aV q F k).length (og q (aV q F k)):=λi hi=>by
 have g:=jS b
 obtain⟨d,e,f⟩:=y6 F c k (jR b)
 have a:=u4 q.ng (aV q F k).length (fj q.ng (aV q F k)) hi
 exact⟨Nat.le_trans (d _ a) O,e _ a,f _ a⟩
def Q3{q n X}(a:eU q=true)(hX:r7 n X):Ft n (yc q X)=true:=List.all_eq_true.2 λi hi=>by
 obtain⟨b,c,d⟩:=hX i (List.mem_range.1 hi)
 show(bJ (eO q (X i).m (X i).L (X i).C).1 (eO q (X i).m (X i).L (X i).C).2&&bJ (dQ q (X i).m (X i).G (X i).C).1 (dQ q (X i).m (X i).G (X i).C).2)=true
 rw[y7 b c a,y8 b d a];rfl
def Hi(n g)(K)(S):((h_ n).all λi=>bt.free (aX g K S i))=true:=List.all_eq_true.2 λ_ _=>rfl
def Ob(q)(n)(S):ju {nw:=q.nw,C:=bG (au q.C),ng:=q.ng,G:=λj=>q.G j,a:=q.a,fl:=q.fl,nu:=q.nu,de:=q.de,top:=q.top} n S=ju q n S:=rfl
def Hj(q)(n)(S):cS {nw:=q.nw,C:=bG (au q.C),ng:=q.ng,G:=λj=>q.G j,a:=q.a,fl:=q.fl,nu:=q.nu,de:=q.de,top:=q.top} n S=cS q n S:=rfl
def Q4{q k F}(n)(X)(e:ct q=true)(c:cX k F=true)(f:(aV q F k).length=n)(tr:an n (lX q.ng n (fj q.ng (aV q F k))) (qN q.ng X))(b:n<=1000000)(d:Ft n (yc q X)=true)
  (lp:gW PP II false (aD II 13 5001) 15 (QZ q n X (dK X) (jC q X) z 0) (Q0 q n (dK X) (jC q X))):kq [u5 q,uT,rZ q,Hg] [(5001,15,QZ q n X (dK X) (jC q X) z 0,Q0 q n (dK X) (jC q X))] 13 [.agg (aY q),cm k F] (λa=> ∀σ,AV.le σ a (N9 q n X)):=by
 have m:=jS c
 obtain⟨r1,g,o⟩:=qP e
 rw[Uz q k F n X (dK X) (jC q X) z,uo,jv,e,c,Ob,Hj,f,jt r1 g,Jv,Hi]
 rw[show nV (aX q.ng (dK X) (jC q X))=yc q X from rfl,d]
 have l:ie k (λi=>aF (F i))=true:=by
  unfold ie
  rw[gr,p_]
  exact List.all_eq_true.2 λi hi=>jR c i (List.mem_range.1 hi)
 have fl:=gU k F
 have a1:(w_ n n&&bt.free (aY q)&&true)=true:=by rw[ni];rfl
 have a2:(true&&true&&true&&x_ n 1000000)=true:=by rw[kV b];rfl
 refine cC _ _ A (cC _ _ (by rw[gr,bW O];rfl) (Zh (λh=>zE) λ_=>?_))
 refine cC _ _ (by rw[l,kV O];rfl) ⟨lp,?_⟩
 repeat' (first|with_reducible refine Zf A ?_|with_reducible refine YG A ?_|with_reducible refine Zi A ?_|with_reducible refine And.intro ?_ ?_|with_reducible exact bC _ _|with_reducible exact bO _ _|with_reducible exact aZ|with_reducible exact tr|with_reducible refine cC _ _ a2 ?_|with_reducible refine cC _ _ a1 ?_|refine cC _ _ a1 ?_)
 exactλσ=>⟨⟨rfl,rfl,λi _=>⟨⟨rfl,rfl,λj _=>⟨⟨rfl,rfl⟩,trivial⟩⟩,rfl,rfl,rfl,rfl,rfl,rfl,rfl,rfl,trivial⟩⟩,⟨rfl,rfl⟩,trivial⟩
def UA{q k F}(a:ct q=true)(b:cX k F=true):af PP II 13 [.agg (aY q),cm k F] HR (.ret (N9 q (aV q F k).length (og q (aV q F k))) HR):=by
 have d:=jS b
 have c:=(lG q F k).len
 have hX:=tm (qP a).2.2 b
 have lp:=Oa q (aV q F k).length (og q (aV q F k)) O a hX
 exact qh (Q4 _ _ a b A (qM _ _ _) O (Q3 (qP a).2.2 hX) lp)
def r8(q:Query)(k:Nat)(F:Nat->ay):Nat:=ju q (aV q F k).length (yc q (og q (aV q F k)))
def FM(q:Query)(k:Nat)(F:Nat->ay)(j:Nat):Nat->Int:=dK (og q (aV q F k)) (cS q (aV q F k).length (yc q (og q (aV q F k))) j)
def oU(q:Query)(k:Nat)(F:Nat->ay)(j:Nat):Nat->List UInt8:=jC q (og q (aV q F k)) (cS q (aV q F k).length (yc q (og q (aV q F k))) j)
def Q5(q:Query)(k:Nat)(F:Nat->ay):AV:=.bK [.az (r8 q k F) 9 (aX q.ng (FM q k F) (oU q k F)),.int b_ 0]
def Q6(q)(k)(F):N9 q (aV q F k).length (og q (aV q F k))=Q5 q k F:=rfl
def A8{q k F}(a:ct q=true)(b:cX k F=true):af PP II 13 [.agg (aY q),cm k F] HR (.ret (Q5 q k F) HR):=by
 rw[<-Q6]
 exact UA a b
def UB(n:Nat)(W V:Nat->Int)(i:Int):St:={t:=e_ [(0,.az n 1 (ae W)),(1,.az n 1 (ae V)),(5,.int b_ i)],nt:=26,H:=g_ 12,df:=[]}
def UC(b:Bool):GE:=.cond b (.one (.x 0 {t:=.e,nt:=26,H:=g_ 12,df:=[]})) (.one (.r {t:=e_ [(4,.bool false)],nt:=26,H:=g_ 12,df:=[]}))
def FN(n:Nat)(W V:Nat->Int)(b:Bool)(i:Int)(Q:Prop):(kr [] [] 16 4004 12 (UB n W V) (λ_=>UC b) (λi=>i+1) Q i)=(ah (B (i<a_ n)) (aa (B (0<=i)&&B (i<a_ n)) (aa (B (0<=i)&&B (i<a_ n)) (ah (!decide (W i.toNat=V i.toNat)) (ah b False (false=false/\True)) (aa (aN b_ (i+1)) (zyN n (zyR n (ae V) (zyI (i+1) (zyN n (zyR n (ae W) Q))))))))) (ah b True False)):=U
def Oc(n:Nat)(W V:Nat->Int)(b:Bool)(Q:AV->Prop):(kb [] [(4004,12,UB n W V 0,UC b)] 16 [.az n 1 (ae W),.az n 1 (ae V)] Q)=(ah (!decide (a_ n=a_ n)) (Q (t_ false)) (gW PP II false (aD II 16 4004) 12 (UB n W V 0) (UC b)/\zyN n (zyR n (ae V) (zyN n (zyR n (ae W) (ah b (Q (t_ true)) (Q (t_ false)))))))):=U
def FO(a b c d e f:Int):ay:=⟨av a 40,av (d_ a 40) 3,av b 3,av (d_ b 3) 3,av c 4,av (d_ c 4) 4-1,d_ (av a 40) 10,av d 40,av d 40+av e 12,av f 40⟩
def UD(a b c d e f:Int)(Q:AV->Prop):(kb [gF] [] 37 [.agg [.int b_ a,.int b_ b,.int b_ c,.int b_ d,.int b_ e,.int b_ f]] Q)=(aa (aN b_ a&&true) (aa (B (a=a)) (aa (aN b_ (d_ a 40)) (aa (aN b_ (d_ a 40)&&true) (aa (B (b=b)) (aa (B (b=b)) (aa (aN b_ b&&true) (aa (B (b=b)) (aa (B (b=b)) (aa (B (b=b)) (aa (aN b_ (d_ b 3)) (aa (aN b_ (d_ b 3)&&true) (aa (B (c=c)) (aa (B (c=c)) (aa (B (c=c)) (aa (B (c=c)) (aa (aN b_ c&&true) (aa (B (c=c)) (aa (B (c=c)) (aa (B (c=c)) (aa (B (c=c)) (aa (B (c=c)) (aa (aN b_ (d_ c 4)) (aa (aN b_ (d_ c 4)&&true) (aa (aN b_ (av (d_ c 4) 4-1)) (aa (B (d=d)) (aa (B (d=d)) (aa (B (d=d)) (aa (B (d=d)) (aa (B (d=d)) (aa (B (d=d)) (aa (aN b_ d&&true) (aa (B (f=f)) (aa (B (f=f)) (aa (B (f=f)) (aa (B (f=f)) (aa (B (f=f)) (aa (B (f=f)) (aa (B (f=f)) (aa (aN b_ f&&true) (aa (aN b_ (d_ (av a 40) 10)) (aa (aN b_ e&&true) (aa (B (av d 40=av d 40)) (aa (aN b_ (av d 40+av e 12)) (Q (AV.agg [c_ b_ (av a 40),c_ b_ (av (d_ a 40) 3),c_ b_ (av b 3),c_ b_ (av (d_ b 3) 3),c_ b_ (av c 4),c_ b_ (av (d_ c 4) 4-1),c_ b_ (d_ (av a 40) 10),c_ b_ (av d 40),c_ b_ (av d 40+av e 12),c_ b_ (av f 40)])))))))))))))))))))))))))))))))))))))))))))))):=U
def UE(k:Nat)(F:Nat->ay)(n:Nat)(W:Nat->Int)(D:Nat->Int)(N:Int->Nat)(i:Int):St:={t:=e_ [(0,cm k F),(1,.az n 1 (ae W)),(5,.own 12 (N i) 1),(6,.int b_ i)],nt:=49,H:={n:=13,t:=e_ [(12,.rows (N i) 1 (ae D) (.ty 3))]},df:=[]}
def UF(k:Nat)(D:Nat->Int):GE:=.one (.x 0 {t:=e_ [(5,.own 12 k 1)],nt:=49,H:={n:=13,t:=e_ [(12,.rows k 1 (ae D) (.ty 3))]},df:=[]})
def Dj(k:Nat)(F:Nat->ay)(n:Nat)(W:Nat->Int)(D:Nat->Int)(N:Int->Nat)(i:Int)(Q:Prop):(kr [v8 18 (.inl A)] [] 15 3004 12 (UE k F n W D N) (λ_=>UF k D) (λi=>i+1) Q i)=(let b:=(zyR n (ae W) (ax (N i+1) (N (i+1)) (zyN k ((an k (λi=>aF (F i)) λi=>aF (F i))/\zyI (i+1) Q))));(ah (B (i<a_ k)) (aa (B (0<=i)&&B (i<a_ k)) (ah (B (a_ n>0)) (aa (!decide (a_ n=0)) (aa (B (0<=n_ i (a_ n))&&B (n_ i (a_ n)<a_ n)) (aa (B (0<=i)&&B (i<a_ k)) (aa (B (0<=i)&&B (i<a_ k)) (aa (aN b_ (ay.h (F i.toNat)-ay.l (F i.toNat))) (aa (aN b_ (ay.h (F i.toNat)-ay.l (F i.toNat)+1)) (aa (aN b_ (W (z (n_ i (a_ n))))&&B (0<ay.h (F i.toNat)-ay.l (F i.toNat)+1)) (aa (aN b_ (ay.l (F i.toNat)+av (W (z (n_ i (a_ n)))) (ay.h (F i.toNat)-ay.l (F i.toNat)+1))) (aa (B (N i<=N i)&&true&&true&&B ((N i+1)*8<=140737488355328)&&true) (aa (aN b_ (i+1)) (ax (N i+1) (N (i+1)) (an (N i+1) (λa=>bif f_ a (N i)then ae D a else j_ 1 (k_ (0+(a-N i)*1) [c_ b_ (ay.l (F i.toNat)+av (W (z (n_ i (a_ n)))) (ay.h (F i.toNat)-ay.l (F i.toNat)+1))])) (ae D)/\zyN n b)))))))))))) (aa (B (N i<=N i)&&true&&true&&B ((N i+1)*8<=140737488355328)&&true) (aa (aN b_ (i+1)) (ax (N i+1) (N (i+1)) (an (N i+1) (λa=>bif f_ a (N i)then ae D a else j_ 1 (k_ (0+(a-N i)*1) [c_ b_ (ay.l (F i.toNat))])) (ae D)/\zyN n b)))))) (ax (N i) k (zyR (N i) (ae D) (ax (N i) k True))))):=U
def UG(k:Nat)(F:Nat->ay)(n:Nat)(W:Nat->Int)(D:Nat->Int)(N:Int->Nat)(Q:AV->Prop):(kb [v8 18 (.inl A)] [(3004,12,UE k F n W D N 0,UF k D)] 15 [cm k F,.az n 1 (ae W)] Q)=(gW PP II false (aD II 15 3004) 12 (UE k F n W D N 0) (UF k D)/\ax (N 0) 0 (zyN n (zyR n (ae W) (ax (N 0) 0 (zyN k ((an k (λi=>aF (F i)) λi=>aF (F i))/\aa ((v_ (List.range.loop k []) λi=>true)&&B (k<=k)) (Q (AV.az k 1 (ae D))))))))):=U
def A9(n:Nat)(W V:Nat->Int):Bool:=(h_ n).all λi=>B (W i=V i)
def FQ(n:Nat)(W V:Nat->Int)(l:n<=1000000):gW PP II false (aD II 16 4004) 12 (UB n W V 0) (UC (A9 n W V)):=by
 have key:=gW.of (ι:=Nat) iw [] (bm PP II []) 1000 (c:=aD II 16 4004) (ir:=false) 12 (λj=>j<=n/\∀k,k<j->W k=V k) (λj=>UB n W V (j:Int)) (λ_=>UC (A9 n W V)) (λj=>n-j) (λj=>j+1) 0 A ⟨o_ _,λk a=>absurd a (lZ _)⟩ λj d=>?_
 ·exact key
 obtain⟨d,f⟩:=d
 have go:∀(i:Int)(Q:Prop),i=(j:Int)->(j<n->W j=V j->Q)->kr [] [] 16 4004 12 (UB n W V) (λ_=>UC (A9 n W V)) (λj=>j+1) Q i:=λi Q hi hQ=>by
  rw[FN]
  have m:a_ n=(n:Int):=rfl
  have g:z i=j:=O
  rw[g]
  refine Zg (λh=>?_) λh=>?_
  ·have ha:(B (0<=i)&&B (i<a_ n))=true:=by simp only[bf,bn];omega
   refine cC _ _ ha (cC _ _ ha (Zl (λe=>?_) λe=>?_))
   ·have:A9 n W V=false:=by unfold A9;rw[List.all_eq_false];exact⟨j,List.mem_range.2 O,by simpa using e⟩
    rw[this];exact⟨rfl,trivial⟩
   ·exact cC _ _ (aq O O) (YG A ⟨bL _ _,Zf A (YG A ⟨bL _ _,hQ O e⟩)⟩)
  ·have:A9 n W V=true:=List.all_eq_true.2 λk a=>bW (f k (by have:=List.mem_range.1 a;omega))
   rw[this];trivial
 exact go (j:Int) _ A λb e=>⟨⟨b,λk a=>by by_cases h:k=j;exact h▸e;exact f k O⟩,O,rfl⟩
def Od{n:Nat}{W V:Nat->Int}(a:n<=1000000):af PP II 16 [.az n 1 (ae W),.az n 1 (ae V)] (g_ 12) (.ret (.bool (A9 n W V)) (g_ 12)):=by
 refine bY (ks:=[]) (T:=[(4004,12,UB n W V 0,UC (A9 n W V))]) (λ_=>rfl) ?_
 rw[Oc]
 refine wA A ⟨FQ n W V a,YG A ⟨bL _ _,YG A ⟨bL _ _,?_⟩⟩⟩
 cases A9 n W V<;>rfl
def FR:aC PP II:=aC.pure 16
 (λX args a=>match args with
  |[.az n 1 f,.az m 1 g]=>X.ak (bA n f&&bA m g&&x_ n 1000000&&w_ n m) (a (.bool (A9 n (aM f) (aM g))))
  |_=>X.fail)
 λX sem hX args a h=>by
  split at h
  ·obtain⟨b,c⟩:=hX.ak _ _ h
   simp only[bf]at b
   obtain⟨⟨⟨a1,a2⟩,d⟩,a4⟩:=b
   cases dE a4
   exact⟨_,c,λ_=>rfl,λ_=>rfl,af.dA (Od (jX d)) (cy a1) (cy a2)⟩
  ·exact zR
def UH{a b c d e f:Int}(ha:aN b_ a=true)(g:aN b_ b=true)(h:aN b_ c=true)(i:aN b_ d=true)(j:aN b_ e=true)(k:aN b_ f=true):
  af PP II 37 [.agg [.int b_ a,.int b_ b,.int b_ c,.int b_ d,.int b_ e,.int b_ f]] (g_ 12) (.ret (.agg (aF (FO a b c d e f))) (g_ 12)):=by
 refine bY (ks:=[gF]) (T:=[]) (λσ=>cL σ _) ?_
 rw[UD]
 have q:=cj (c:=d_ c 4) (n:=4) O
 have r:=cj (c:=a) (n:=40) O
 have s:=cj (c:=d) (n:=40) O
 have t:=cj (c:=e) (n:=12) O
 have l:aN b_ (av (d_ c 4) 4-1)=true:=aq O O
 have m:aN b_ (d_ (av a 40) 10)=true:=mM (aq O O) O
 have o:aN b_ (av d 40+av e 12)=true:=aq O O
 have t1:=mM ha (O:(0:Int)<40)
 have t2:=mM g (O:(0:Int)<3)
 have p:=mM h (O:(0:Int)<4)
 rw[ha,g,h,i,j,k,l,m,o,t1,t2,p]
 repeat' (first|exact A|refine cC _ _ A ?_|refine cC _ _ (bW A) ?_)
def Dk:aC PP II:=aC.pure 37
 (λX args g=>match args with
  |[.agg [.int b_ a,.int b_ b,.int b_ c,.int b_ d,.int b_ e,.int b_ f]]=>X.ak (aN b_ a&&aN b_ b&&aN b_ c&&aN b_ d&&aN b_ e&&aN b_ f) (g (.agg (aF (FO a b c d e f))))
  |_=>X.fail)
 λX sem hX args g h=>by
  split at h
  ·obtain⟨i,j⟩:=hX.ak _ _ h
   simp only[bf]at i
   obtain⟨⟨⟨⟨⟨a1,a2⟩,k⟩,a4⟩,l⟩,m⟩:=i
   exact⟨_,j,λ_=>rfl,λ_=>rfl,UH a1 a2 k a4 l m⟩
  ·exact zR
def mY(F:Nat->ay)(n:Nat)(W:Nat->Int)(j:Nat):Int:=if n=0 then(F j).l else(F j).l+av (W (j%n)) ((F j).h-(F j).l+1)
def W0(k:Nat)(F:Nat->ay):Prop := ∀j,j<k->0<=(F j).l/\(F j).l<=(F j).h/\(F j).h<=4398046511104
def JR(k:Nat)(F:Nat->ay)(n:Nat)(W:Nat->Int)(d:W0 k F)(e:∀j,j<n->aN b_ (W j)=true)(s:k<=1000000)(i:Int)(j:Nat)(hi:i=(j:Int))(f:j<k)(Q:Prop)(hQ:Q):
  kr [v8 18 (.inl A)] [] 15 3004 12 (UE k F n W (mY F n W) z) (λ_=>UF k (mY F n W)) (λi=>i+1) Q i:=by
 rw[Dj]
 have t:a_ n=(n:Int):=rfl
 have u:a_ k=(k:Int):=rfl
 have g:z i=j:=O
 have m:z (i+1)=j+1:=O
 rw[g,m]
 obtain⟨w,x,y⟩:=d j f
 have ha:(B (0<=i)&&B (i<a_ k))=true:=by simp only[bf,bn];omega
 have b:(B (j<=j)&&true&&true&&B ((j+1)*8<=140737488355328)&&true)=true:=by rw[bW (dw j),bW (O:(j+1)*8<=140737488355328)];rfl
 have fr:an k (λi=>aF (F i)) λi=>aF (F i):=Zj λ_ _=>cL _ _
 refine Zg (λ_=>cC _ _ ha (Zg (λh=>?_) λh=>?_)) λh=>absurd h O
 ·have o:n_ i (a_ n)=((j%n:Nat):Int):=by rw[hi];rfl
  have q:j%n<n:=Nat.mod_lt _ O
  have a:(B (0<=((j%n:Nat):Int))&&B (((j%n:Nat):Int)<a_ n))=true:=by simp only[bf,bn];omega
  have r:(((j%n:Nat):Int)).toNat=j%n:=O
  rw[o,a,r,e _ q]
  have p:=cj (c:=W (j%n)) (n:=(F j).h-(F j).l+1) O
  have v:(F j).l+av (W (j%n)) ((F j).h-(F j).l+1)=mY F n W j:=by unfold mY;rw[if_neg O]
  have n0:(!decide (a_ n=0))=true:=by simp only[m_,iK];omega
  refine cC _ _ n0 (cC _ _ A (cC _ _ ha (cC _ _ ha (cC _ _ (aq O O) (cC _ _ (aq O O) (cC _ _ (by rw[bW (O:0<(F j).h-(F j).l+1)];rfl) (cC _ _ (aq O O) (cC _ _ b (cC _ _ (aq O O) ?_)))))))))
  exact YG A ⟨ey _ j _ v,YG A ⟨bL _ _,YG A (YG A ⟨fr,Zf A hQ⟩)⟩⟩
 ·have v:(F j).l=mY F n W j:=by unfold mY;rw[if_pos O]
  refine cC _ _ b (cC _ _ (aq O O) ?_)
  exact YG A ⟨ey _ j _ v,YG A ⟨bL _ _,YG A (YG A ⟨fr,Zf A hQ⟩)⟩⟩
def Q7(k:Nat)(F:Nat->ay)(n:Nat)(W:Nat->Int)(i:Int)(hi:i=(k:Int))(Q:Prop):
  kr [v8 18 (.inl A)] [] 15 3004 12 (UE k F n W (mY F n W) z) (λ_=>UF k (mY F n W)) (λi=>i+1) Q i:=by
 rw[Dj]
 have b:a_ k=(k:Int):=rfl
 have a:z i=k:=O
 rw[a]
 exact Zg (λh=>absurd h O) λ_=>YG A ⟨bL _ _,YG A trivial⟩
def Oe{k:Nat}{F:Nat->ay}{n:Nat}{W:Nat->Int}(a:W0 k F)(b:∀j,j<n->aN b_ (W j)=true)(d:k<=1000000):
  af PP II 15 [cm k F,.az n 1 (ae W)] (g_ 12) (.ret (.az k 1 (ae (mY F n W))) (g_ 12)):=by
 have key:=gW.of (ι:=Int) iw [v8 18 (.inl A)] (bm PP II []) 1000 (c:=aD II 15 3004) (ir:=false) 12 (λi=> ∃j:Nat,i=(j:Int)/\j<=k) (UE k F n W (mY F n W) z) (λ_=>UF k (mY F n W)) (λi=>k-i.toNat) (λi=>i+1) 0 A ⟨0,rfl,o_ _⟩ λi hi=>?_
 ·refine bY (ks:=[v8 18 (.inl A)]) (T:=[(3004,12,UE k F n W (mY F n W) z 0,UF k (mY F n W))]) (λσ=>⟨rfl,rfl,λi _=>ru _ _ _⟩) ?_
  rw[UG]
  refine⟨key,YG A (YG A ⟨bL _ _,YG A (YG A ⟨Zj λ_ _=>cL _ _,cC _ _ ?_ ?_⟩)⟩)⟩
  ·rw[bW (dw k),l_]
   exact List.all_eq_true.2 λ_ _=>rfl
  ·rfl
 obtain⟨j,e,f⟩:=hi
 by_cases h:j<k
 ·exact JR k F n W a b d i j e h _ ⟨⟨j+1,O,O⟩,O,rfl⟩
 ·exact Q7 k F n W i O _
def Dl(k:Nat)(f:Nat->List AV):Bool:=(h_ k).all λi=>B (0<=(bP f i).l)&&B ((bP f i).l<=(bP f i).h)&&B ((bP f i).h<=4398046511104)
def intsIn(n:Nat)(g:Nat->List AV):Bool:=bA n g&&(h_ n).all λi=>aN b_ (aM g i)
def fm(X:Nat->Nat->Int)(j:Nat):List AV:=[.int b_ (X j 0),.int b_ (X j 1),.int b_ (X j 2),.int b_ (X j 3),.int b_ (X j 4),.int b_ (X j 5)]
def YZ(n:Nat)(X:Nat->Nat->Int)(m:Int->Nat)(G:Int->Nat->ay)(i:Int):St:={t:=e_ [(0,.az n 6 (fm X)),(3,.own 12 (m i) 10),(4,.int b_ i)],nt:=94,H:={n:=13,t:=e_ [(12,.rows (m i) 10 (λj=>aF (G i j)) (.ty 48))]},df:=[]}
def Ya(n:Nat)(X:Nat->Nat->Int)(i:Int):St:={t:=e_ [(0,.az n 6 (fm X)),(3,.aw),(4,.int b_ i)],nt:=94,H:=g_ 12,df:=[]}
def FT(m:Nat)(G:Nat->ay):GE:=.one (.x 0 {t:=e_ [(3,.own 12 m 10)],nt:=94,H:={n:=13,t:=e_ [(12,.rows m 10 (λj=>aF (G j)) (.ty 48))]},df:=[]})
def Ki(n:Nat)(X:Nat->Nat->Int)(m:Nat)(G:Nat->ay)(i:Int)(x:ay)(j:Int):St:={t:=e_ [(0,.az n 6 (fm X)),(3,.own 12 m 10),(4,.int b_ i),(5,.ptr 13 0 0 0),(6,.int b_ j)],nt:=94,H:={n:=14,t:=e_ [(12,.rows m 10 (λj=>aF (G j)) (.ty 48)),(13,.cells (aF x) (.ty 48))]},df:=[]}
def Of(n:Nat)(X:Nat->Nat->Int)(m:Nat)(G:Nat->ay)(i:Int)(x:ay)(a:Int):GE:=.one (.x 2 (Ki n X m G i x a))
def W1(n:Nat)(X:Nat->Nat->Int)(m:Nat)(G:Nat->ay)(i:Int)(x:ay)(a:Int)(j:Int)(Q:Prop):(kr [] [] 12 7034 14 (Ki n X m G i x) (λ_=>Of n X m G i x a) (λj=>j+1) Q j)=(let c:=(zyI x.t (zyI x.s (zyI x.v (zyI x.w (zyI x.o (zyI x.p (zyI x.d (zyI x.l (zyI x.h (zyI x.b (zyN m ((an m (λj=>aF (G j)) λj=>aF (G j))/\zyN m (zyN n (zyR n (fm X) (zyI i (aH j a True))))))))))))))));let e:=(aa (aN b_ (j+1)) (zyI x.t (zyI x.s (zyI x.v (zyI x.w (zyI x.o (zyI x.p (zyI x.d (zyI x.l (zyI x.h (zyI x.b (zyN m ((an m (λj=>aF (G j)) λj=>aF (G j))/\zyN m (zyN n (zyR n (fm X) (zyI i (zyI (j+1) Q)))))))))))))))));(ah (B (j<a_ m)) (aa (B (0<=j)&&B (j<a_ m)) (aa (B (j.toNat<m)) (ah (B (ay.t (G j.toNat)<x.t)) e (aa (B (0<=j)&&B (j<a_ m)) (aa (B (j.toNat<m)) (ah (B (ay.t (G j.toNat)=x.t)) (aa (B (0<=j)&&B (j<a_ m)) (aa (B (j.toNat<m)) (ah (B (ay.s (G j.toNat)<x.s)) e c))) c)))))) c)):=U
def sF(n:Nat)(X:Nat->Nat->Int)(m:Int->Nat)(G:Int->Nat->ay)(p:Bool×Int):St:=match p.1 with
 |true=>YZ n X m G p.2
 |false=>Ya n X p.2
def Hk(n:Nat)(X:Nat->Nat->Int)(m:Int->Nat)(G:Int->Nat->ay)(x:ay)(a:Int)(M:Nat)(Z:Nat->ay)(i:Int)(Q:Prop):(kr (ι:=Bool×Int) [Dk] [(7034,14,Ki n X (m i) (G i) i x 0,Of n X (m i) (G i) i x a)] 12 3008 12 (sF n X m G) (λ_=>FT M Z) (λp=>(true,p.2+1)) Q (true,i))=(let f:=(aa (B (0<=a)&&B (a<=a)&&B (a<=a_ (m i))&&B (0<m i)) (aa (B (0<=a)&&B (a<=a_ (m i))&&B (a_ (m i)<=a_ (m i))&&B (0<m i)) (aa (B (a.toNat+z (a_ (m i)-a)<=m i)&&true&&B ((1+z (a_ (m i)-a))*80<=140737488355328)&&true) (ah (B (z (a_ (m i)-a)=0)) (aa (B (0<=a)&&B (a<=a)&&B (a<=a_ (m i))&&B (0<m i)) (aa (B (z (a-0)=z (a-0))&&B (some (z (a-0))=Option.some (z (a-0)))&&true) (aa (B (0+z (a-0)<=m i)&&true&&true&&B ((z (a-0)+1)*80<=140737488355328)&&true) (ah (B (z (a-0)=z (a-0))) (aa (aN b_ (i+1)) (ax (z (a-0)+1) (m (i+1)) ((an (z (a-0)+1) (λc=>bif f_ c (z (a-0))then aF (G i (0+c))else j_ 10 (k_ (0+(c-z (a-0))*10) [c_ b_ x.t,c_ b_ x.s,c_ b_ x.v,c_ b_ x.w,c_ b_ x.o,c_ b_ x.p,c_ b_ x.d,c_ b_ x.l,c_ b_ x.h,c_ b_ x.b])) λj=>aF (G (i+1) j))/\ax (z (a-0)+1) (m (i+1)) (zyN n (zyR n (fm X) (zyI (i+1) Q)))))) (aa (aN b_ (i+1)) (ax (z (a-0)+1) (m (i+1)) ((an (z (a-0)+1) (λc=>bif f_ c (z (a-0))then aF (G i (0+c))else j_ 10 (k_ (0+(c-z (a-0))*10) [c_ b_ x.t,c_ b_ x.s,c_ b_ x.v,c_ b_ x.w,c_ b_ x.o,c_ b_ x.p,c_ b_ x.d,c_ b_ x.l,c_ b_ x.h,c_ b_ x.b])) λj=>aF (G (i+1) j))/\ax (z (a-0)+1) (m (i+1)) (zyN n (zyR n (fm X) (zyI (i+1) Q)))))))))) (aa (B (0<=a)&&B (a<=a)&&B (a<=a_ (m i))&&B (0<m i)) (aa (B (z (a-0)=z (a-0))&&B (some (z (a-0))=Option.some (z (a-0)))&&true) (aa (B (0+z (a-0)<=m i)&&B (1+z (a_ (m i)-a)<=1+z (a_ (m i)-a))&&true&&B ((z (a-0)+(1+z (a_ (m i)-a)))*80<=140737488355328)&&true) (ah (B (1+z (a_ (m i)-a)=0)) (aa (aN b_ (i+1)) (ax (m (i+1)) 0 False)) (ah (B (z (a-0)=z (a-0))) (aa (aN b_ (i+1)) (ax (z (a-0)+(1+z (a_ (m i)-a))) (m (i+1)) ((an (z (a-0)+(1+z (a_ (m i)-a))) (λc=>bif f_ c (z (a-0))then aF (G i (0+c))else bif f_ (c-z (a-0)) 1 then j_ 10 (k_ (0+(c-z (a-0))*10) [c_ b_ x.t,c_ b_ x.s,c_ b_ x.v,c_ b_ x.w,c_ b_ x.o,c_ b_ x.p,c_ b_ x.d,c_ b_ x.l,c_ b_ x.h,c_ b_ x.b])else aF (G i (a.toNat+(c-z (a-0)-1)))) λj=>aF (G (i+1) j))/\ax (z (a-0)+(1+z (a_ (m i)-a))) (m (i+1)) (zyN n (zyR n (fm X) (zyI (i+1) Q)))))) (aa (aN b_ (i+1)) (ax (z (a-0)+(1+z (a_ (m i)-a))) (m (i+1)) ((an (z (a-0)+(1+z (a_ (m i)-a))) (λc=>bif f_ c (z (a-0))then aF (G i (0+c))else bif f_ (c-z (a-0)) 1 then j_ 10 (k_ (0+(c-z (a-0))*10) [c_ b_ x.t,c_ b_ x.s,c_ b_ x.v,c_ b_ x.w,c_ b_ x.o,c_ b_ x.p,c_ b_ x.d,c_ b_ x.l,c_ b_ x.h,c_ b_ x.b])else aF (G i (a.toNat+(c-z (a-0)-1)))) λj=>aF (G (i+1) j))/\ax (z (a-0)+(1+z (a_ (m i)-a))) (m (i+1)) (zyN n (zyR n (fm X) (zyI (i+1) Q)))))))))))))));let e:=(FO (X i.toNat 0) (X i.toNat 1) (X i.toNat 2) (X i.toNat 3) (X i.toNat 4) (X i.toNat 5));let g:=(ax (m i) M ((an (m i) (λj=>aF (G i j)) λj=>aF (Z j))/\ax (m i) M True));let k:=(B (0<=a)&&B (a<a_ (m i)));(ah (B (i<a_ n)) (ah (B (i<24)) (aa (B (0<=i)&&B (i<a_ n)) (aa (aN b_ (X i.toNat 0)&&aN b_ (X i.toNat 1)&&aN b_ (X i.toNat 2)&&aN b_ (X i.toNat 3)&&aN b_ (X i.toNat 4)&&aN b_ (X i.toNat 5)) (gW PP II false (aD II 12 7034) 14 (Ki n X (m i) (G i) i x 0) (Of n X (m i) (G i) i x a)/\aH (ay.t e) x.t (aH (ay.s e) x.s (aH (ay.v e) x.v (aH (ay.w e) x.w (aH (ay.o e) x.o (aH (ay.p e) x.p (aH (ay.d e) x.d (aH (ay.l e) x.l (aH (ay.h e) x.h (aH (ay.b e) x.b (zyN (m i) ((an (m i) (λj=>aF (G i j)) λj=>aF (G i j))/\zyN (m i) (zyN n (zyR n (fm X) (zyI i (ah (B (a<a_ (m i))) (aa k (aa (B (a.toNat<m i)) (ah (B (ay.t (G i a.toNat)=x.t)) (aa k (aa (B (a.toNat<m i)) (ah (B (ay.s (G i a.toNat)=x.s)) (aa (aN b_ (i+1)) (ax (m i) (m (i+1)) ((an (m i) (λj=>aF (G i j)) λj=>aF (G (i+1) j))/\ax (m i) (m (i+1)) (zyN n (zyR n (fm X) (zyI (i+1) Q)))))) f))) f))) f)))))))))))))))))) g) g)):=U
def Dn(n:Nat)(X:Nat->Nat->Int)(m:Int->Nat)(G:Int->Nat->ay)(M:Nat)(Z:Nat->ay)(i:Int)(Q:Prop):(kr (ι:=Bool×Int) [Dk] [] 12 3008 12 (sF n X m G) (λ_=>FT M Z) (λp=>(true,p.2+1)) Q (false,i))=(let a:=(FO (X i.toNat 0) (X i.toNat 1) (X i.toNat 2) (X i.toNat 3) (X i.toNat 4) (X i.toNat 5));(ah (B (i<a_ n)) (ah (B (i<24)) (aa (B (0<=i)&&B (i<a_ n)) (aa (aN b_ (X i.toNat 0)&&aN b_ (X i.toNat 1)&&aN b_ (X i.toNat 2)&&aN b_ (X i.toNat 3)&&aN b_ (X i.toNat 4)&&aN b_ (X i.toNat 5)) (aa (aN b_ (i+1)) (ax 10 (m (i+1)*10) ((an (m (i+1)) (fW [c_ b_ (ay.t a),c_ b_ (ay.s a),c_ b_ (ay.v a),c_ b_ (ay.w a),c_ b_ (ay.o a),c_ b_ (ay.p a),c_ b_ (ay.d a),c_ b_ (ay.l a),c_ b_ (ay.h a),c_ b_ (ay.b a)] 10) λj=>aF (G (i+1) j))/\ax 1 (m (i+1)) (zyN n (zyR n (fm X) (zyI (i+1) Q)))))))) (ax M 0 (ax M 0 True))) (ax M 0 (ax M 0 True)))):=U
def W2(n:Nat)(X:Nat->Nat->Int)(m:Int->Nat)(G:Int->Nat->ay)(M:Nat)(Z:Nat->ay)(Q:AV->Prop):(kb [] [(3008,12,sF n X m G (false,0),FT M Z)] 12 [.az n 6 (fm X)] Q)=(gW PP II false (aD II 12 3008) 12 (sF n X m G (false,0)) (FT M Z)/\zyN n (zyR n (fm X) (aa ((v_ (List.range.loop M []) λi=>true)&&B (M<=M)) (Q (AV.az M 10 λj=>aF (Z j)))))):=U
def JS(a b:ay):Bool:=B (a.t<b.t)||(B (a.t=b.t)&&B (a.s<b.s))
def ku(x:ay)(G:Nat->ay)(m:Nat):Nat:=((h_ m).find? λk=>!JS (G k) x).getD m
def qO(x:ay)(G:Nat->ay)(m:Nat):ku x G m<=m/\(∀k,k<ku x G m->JS (G k) x=true)/\(ku x G m<m->JS (G (ku x G m)) x=false):=by
 unfold ku
 cases h:(h_ m).find? λk=>!JS (G k) x with
 |none=>
  rw[List.find?_range_eq_none]at h
  exact⟨dw _,λk a=>by have:=h k a;simpa using this,λa=>absurd a (HD _)⟩
 |some j=>
  rw[List.find?_range_eq_some]at h
  obtain⟨c,b,d⟩:=h
  have b:=List.mem_range.1 b
  exact⟨Nat.le_of_lt b,λk a=>by have:=d k a;simpa using this,λ_=>by show JS (G j) x=false;simpa using c⟩
def oV(a b:ay):Bool:=B (a.t=b.t)&&B (a.s=b.s)
def Ba(a:Nat)(x:ay)(G:Nat->ay)(j:Nat):ay:=if j<a then G j else if j=a then x else G (j-1)
def xk(x:ay)(S:Nat×(Nat->ay)):Nat×(Nat->ay):=
 bif f_ (ku x S.2 S.1) S.1&&oV (S.2 (ku x S.2 S.1)) x then S else(S.1+1,Ba (ku x S.2 S.1) x S.2)
def fU(X:Nat->Nat->Int)(i:Nat):ay:=FO (X i 0) (X i 1) (X i 2) (X i 3) (X i 4) (X i 5)
def gp(X:Nat->Nat->Int):Nat->Nat×(Nat->ay)
 |0=>(0,λ_=>⟨0,0,0,0,0,0,0,0,0,0⟩)
 |i+1=>xk (fU X i) (gp X i)
def Bb(x y:ay):Prop:=x.t<y.t∨(x.t=y.t/\x.s<y.s)
def Q8{a b:ay}:JS a b=true↔Bb a b:=by
 unfold JS Bb
 simp only[s_,bf,bn]
def y9(x y:ay):lr x y<0↔Bb x y:=by
 unfold lr Bb U9 sP
 by_cases h1:x.t<y.t
 ·simp[h1]
 ·by_cases c:x.t>y.t
  ·simp[h1,c];omega
  ·have e:x.t=y.t:=by omega
   by_cases a:x.s<y.s
   ·simp[e,a]
   ·by_cases b:x.s>y.s
    ·simp[e,a,b]
    ·simp[e,a,b]
def zc{F:Nat->ay}:∀k,(∀j,j+1<=k->Bb (F j) (F (j+1)))->fL F k=true
 |0,_=>rfl
 |k+1,h=>by
  show(!decide (lr (F (k+1)) (F k)<0)&&fL F k)=true
  rw[zc k λj a=>h j O,l_,m_,iK,y9]
  have:=h k (dw _)
  unfold Bb at this⊢
  omega
structure Good (m:Nat) (a:Nat->ay):Prop where
 val:∀k,k<m->bB (a k)=true
 ord:∀k,k+1<m->Bb (a k) (a (k+1))
def Good.UI{m:Nat}{G:Nat->ay}(h:Good m G)(b:m<=400):cX m G=true:=by
 unfold cX
 rw[bW b,zc _ λj c=>h.ord j O,l_,l_]
 refine List.all_eq_true.2 λk a=>?_
 have a:=List.mem_range.1 a
 cases k with
 |zero=>unfold sQ;rw[h.val _ a];rfl
 |succ k=>
  show(bB (G (k+1))&& !decide (lr (G k) (G (k+1))>=0))=true
  rw[h.val _ a,p_,m_,iK]
  have:=(y9 _ _).2 (h.ord k a)
  omega
def FU(X:Nat->Nat->Int)(i:Nat):bB (fU X i)=true:=by
 have p0:=cj (c:=X i 0) (n:=40) O
 have a:=cj (c:=d_ (X i 0) 40) (n:=3) O
 have b:=cj (c:=X i 1) (n:=3) O
 have d:=cj (c:=d_ (X i 1) 3) (n:=3) O
 have e:=cj (c:=X i 2) (n:=4) O
 have f:=cj (c:=d_ (X i 2) 4) (n:=4) O
 have g:=cj (c:=X i 3) (n:=40) O
 have h:=cj (c:=X i 4) (n:=12) O
 have j:=cj (c:=X i 5) (n:=40) O
 unfold fU FO bB
 simp only[bf,bn]
 and_intros<;>first|omega|trivial
def JT{x:ay}{S:Nat×(Nat->ay)}(hx:bB x=true)(h:Good S.1 S.2):Good (xk x S).1 (xk x S).2:=by
 obtain⟨g,d,b⟩:=qO x S.2 S.1
 unfold xk
 cases c:f_ (ku x S.2 S.1) S.1&&oV (S.2 (ku x S.2 S.1)) x with
 |true=>exact h
 |false=>
  simp only[cond_false]
  generalize ku x S.2 S.1=a at*
  refine⟨λk e=>?_,λk e=>?_⟩
  ·simp only[Ba]
   split
   ·exact h.val k O
   ·split
    ·exact hx
    ·exact h.val _ O
  ·simp only[Ba]
   by_cases c1:k+1<a
   ·rw[if_pos O,if_pos c1];exact h.ord k O
   ·by_cases c2:k+1=a
    ·rw[if_pos O,if_neg c1,if_pos c2];exact Q8.1 (d k O)
    ·rw[if_neg (O:¬ k<a),if_neg c1,if_neg c2]
     by_cases c3:k=a
     ·rw[if_pos c3]
      have ha:a<S.1:=O
      have b:=b ha
      have f:f_ a S.1=true:=by rw[u_];exact ha
      rw[f,p_]at c
      show Bb x (S.2 (k+1-1))
      rw[Nat.add_sub_cancel,c3]
      unfold JS at b
      unfold oV at c
      unfold Bb
      simp only[i_,q_,iK]at b c
      omega
     ·rw[if_neg c3]
      have:=h.ord (k-1) O
      rw[show k-1+1=k by omega]at this
      exact this
def zd(X:Nat->Nat->Int):∀i,Good (gp X i).1 (gp X i).2
 |0=>⟨λk a=>absurd a (lZ _),λk a=>absurd a (lZ _)⟩
 |i+1=>JT (FU X i) (zd X i)
def Bc(X:Nat->Nat->Int):∀i,(gp X i).1<=i/\(gp X i).1<=(gp X (i+1)).1/\0<(gp X (i+1)).1
 |i=>by
  have a:∀i,(gp X i).1<=(gp X (i+1)).1/\(gp X (i+1)).1<=(gp X i).1+1/\0<(gp X (i+1)).1:=λi=>by
   show(gp X i).1<=(xk (fU X i) (gp X i)).1/\(xk (fU X i) (gp X i)).1<=(gp X i).1+1/\0<(xk (fU X i) (gp X i)).1
   unfold xk
   cases b:f_ (ku (fU X i) (gp X i).2 (gp X i).1) (gp X i).1&&oV ((gp X i).2 (ku (fU X i) (gp X i).2 (gp X i).1)) (fU X i)with
   |true=>
    rw[bf,u_]at b
    simp only[cond_true];omega
   |false=>simp only[cond_false];omega
  have le:∀i,(gp X i).1<=i:=λi=>by
   induction i with
   |zero=>exact dw _
   |succ i c=>have:=a i;omega
  exact⟨le i,(a i).1,(a i).2.2⟩
def u6(n:Nat)(X:Nat->Nat->Int):an n (fm X) (fm X):=Zj λ_ _=>⟨⟨rfl,rfl⟩,⟨rfl,rfl⟩,⟨rfl,rfl⟩,⟨rfl,rfl⟩,⟨rfl,rfl⟩,⟨rfl,rfl⟩,trivial⟩
def Bd(m:Nat)(G:Nat->ay):an m (λj=>aF (G j)) λj=>aF (G j):=Zj λ_ _=>cL _ _
def Og(n:Nat)(X:Nat->Nat->Int)(m:Nat)(G:Nat->ay)(i:Int)(x:ay)(r:m<=1000):gW PP II false (aD II 12 7034) 14 (Ki n X m G i x 0) (Of n X m G i x (ku x G m:Nat)):=by
 obtain⟨s,l,f⟩:=qO x G m
 generalize ku x G m=a at*
 have key:=gW.of (ι:=Nat) iw [] (bm PP II []) 1000 (c:=aD II 12 7034) (ir:=false) 14 (λj=>j<=a) (λj=>Ki n X m G i x (j:Int)) (λ_=>Of n X m G i x (a:Int)) (λj=>m-j) (λj=>j+1) 0 A (o_ _) λj g=>?_
 ·exact key
 have g:j<=a:=g
 have go:∀(J:Int)(Q:Prop),J=(j:Int)->(j<a->j<m->Q)->kr [] [] 12 7034 14 (Ki n X m G i x) (λ_=>Of n X m G i x (a:Int)) (λj=>j+1) Q J:=λJ Q t hQ=>by
  rw[W1]
  have u:a_ m=(m:Int):=rfl
  have o:z J=j:=O
  rw[o]
  have fr:=Bd m G
  have xr:=u6 n X
  have out:∀{Z:Prop},j=a->(J=(a:Int)->Z)->Z:=λe h=>h O
  refine Zg (λh=>?_) λh=>?_
  ·have ha:(B (0<=J)&&B (J<a_ m))=true:=by simp only[bf,bn];omega
   have d:B (j<m)=true:=bW O
   refine cC _ _ ha (cC _ _ d (Zg (λb=>?_) λb=>cC _ _ ha (cC _ _ d (Zg (λk=>cC _ _ ha (cC _ _ d (Zg (λp=>?_) λp=>?_))) λk=>?_))))
   ·have:j<a:=by
     by_cases e:j=a
     ·have:=f O
      rw[<-e]at this
      unfold JS at this
      simp only[i_,iK]at this
      exact absurd b this.1
     ·omega
    have q:=hQ this O
    refine cC _ _ (aq O O) ?_
    exact ZE
   ·have:j<a:=by
     by_cases e:j=a
     ·have:=f O
      rw[<-e]at this
      unfold JS at this
      simp only[i_,q_,iK]at this
      omega
     ·omega
    have q:=hQ this O
    refine cC _ _ (aq O O) ?_
    exact ZE
   all_goals
    have e:J=(a:Int):=by
     by_cases e:j=a
     ·omega
     ·have:=l j O
      unfold JS at this
      simp only[s_,bf,bn]at this
      omega
    exact ZF
  ·have e:J=(a:Int):=by omega
   exact ZF
 exact go (j:Int) _ A λb k=>⟨b,O,rfl⟩
end
end Go.Sx
