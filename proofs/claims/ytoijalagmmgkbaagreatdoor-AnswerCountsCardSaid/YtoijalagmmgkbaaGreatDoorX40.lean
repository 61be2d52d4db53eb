/- The proof of a statement of the seat, part 40. -/
import Derived.Test.YtoijalagmmgkbaaGreatDoorX38
import Derived.Test.YtoijalagmmgkbaaGreatDoorX39
import Derived.Test.YtoijalagmmgkbaaGreatDoorX30
set_option linter.all false
set_option linter.defProp false
set_option maxRecDepth 1000000
namespace Go.Sx
open Go
open Int renaming ofNat->M,toNat->z,le_antisymm->n_,le_trans->p_,le_total->q_
open Decidable renaming decide->a_
open Bool renaming not_eq_true'->b_,and_true->h_,or_eq_true->m_
open List renaming range->c_,all->f_,pairwise_mergeSort->i_,mergeSort_perm->l_
open Nat renaming lt_or_eq_of_le->d_,zero_le->k_,le_trans->o_,ble->x_,blt->y_
open And renaming intro->e_
open Go.IntKind renaming i64->g_
noncomputable section
def vb(n:Nat)(F:Nat->ay):an n (eD F) (eD F):=λj _ σ=>qo σ F j
def nf(n:Nat)(F:Nat->ay):an n (λj=>aF (F j)) λj=>aF (F j):=λ_ _ σ=>cL σ _
def OL(n:Nat)(a:Nat->List UInt8):an n (lh a) (lh a):=λj _ σ=>tn σ a j
def su(n:Nat):an n eu eu:=λj _ σ=>pr σ j
def Ut{q:Query}{k:Nat}{F:Nat->ay}(f:k<=400):aE PP II false (aD II 23 5001) 15 (VW q k F z 0) (VX q k F):=by
 have key:=aE.of (ι:=Int) iw [] (bm PP II []) 1000 (c:=aD II 23 5001) (ir:=false) 15 (λi=> ∃a:Nat,i=(a:Int)/\a<=k) (λi=>VW q k F z i) (λ_=>VX q k F) (λi=>k-i.toNat) (λi=>i+1) 0 A ⟨0,rfl,k_ k⟩ λp b=>?_
 ·exact key
 have g:M k=(k:Int):=rfl
 obtain⟨a,rfl,ha⟩:=b
 have go:∀Q:Prop,(a<k->Q)->kr [] [] 23 5001 15 (VW q k F z) (λ_=>VX q k F) (λi=>i+1) Q (a:Int):=λQ hQ=>by
  rw[T9,show z (a:Int)=a from rfl,show z ((a:Int)+1)=a+1 by omega]
  refine Zg (λh=>?_) λh=>?_
  ·have hn:=hQ O
   have d:=pn (λj=>aF (F j)) a (λj σ=>cL σ _) A
   refine cC _ _ zN (cC _ _ (by simp only[bf,bn,and_true];omega) (cC _ _ (aq O O) (YG A ⟨d,?_⟩)))
   repeat' (with_reducible first|exact hn|exact vb _ _|exact bC _ _|exact bO _ _|exact aZ|refine Zi A ?_|refine Zf A ?_|refine YG A ?_|refine e_ ?_ ?_)
  ·have e:a=k:=by omega
   subst e
   repeat' (with_reducible first|exact trivial|exact vb _ _|exact nf _ _|exact bC _ _|exact bO _ _|exact aZ|refine Zi A ?_|refine Zf A ?_|refine YG A ?_|refine e_ ?_ ?_)
 exact go _ λh=>⟨⟨a+1,rfl,O⟩,(by show k-((a:Int)+1).toNat<k-(a:Int).toNat;omega),rfl⟩
def tx(F:Nat->ay)(a:bj)(i:Nat):Int:=(F (a.T i).toNat).t
def Wz(k:Nat)(a:bj):Prop := ∀j,j<a.m->0<=a.T j/\a.T j<(k:Int)
def UE{q:Query}{k:Nat}{F:Nat->ay}(n:Nat)(X:Nat->bj)(no:Nat)(K:Nat->Nat->Int)(S:Nat->Nat->List UInt8)(i:Int){f:bj}(b C:Nat->List UInt8)(m:Nat){s:Nat}(l:s<f.m)(o:Wz k f)(D:f.m<=1000):
  aE PP II false (aD II 23 17032) 20 (RJ q k F n X no K S i f b C m (s:Int) (s:Int)) (RL q k F n X no K S i f b C m (s:Int) (vc (tx F f) f.m s:Nat)):=by
 obtain⟨r1,v,r,t⟩:=xn (tx F f) l
 generalize vc (tx F f) f.m s=e at r1 v r t⊢
 have key:=aE.of (ι:=Int) iw [] (bm PP II []) 1000 (c:=aD II 23 17032) (ir:=false) 20 (λx=> ∃a:Nat,x=(a:Int)/\s<=a/\a<=e) (λx=>RJ q k F n X no K S i f b C m (s:Int) x) (λ_=>RL q k F n X no K S i f b C m (s:Int) (e:Nat)) (λx=>e-x.toNat) (λx=>x+1) (s:Int) A ⟨s,rfl,dw s,Nat.le_of_lt r1⟩ λp w=>?_
 ·exact key
 have E:M k=(k:Int):=rfl
 have G:M f.m=(f.m:Int):=rfl
 obtain⟨a,rfl,y,u⟩:=w
 have go:∀Q:Prop,(a<e->Q)->kr [] [] 23 17032 20 (RJ q k F n X no K S i f b C m (s:Int)) (λ_=>RL q k F n X no K S i f b C m (s:Int) (e:Nat)) (λi=>i+1) Q (a:Int):=λQ hQ=>by
  rw[Ur,show z (a:Int)=a from rfl,show z (s:Int)=s from rfl]
  refine Zg (λh=>?_) λh=>?_
  ·have j:a<f.m:=by omega
   obtain⟨t1,t2⟩:=o a j
   obtain⟨H,I⟩:=o s l
   refine cC _ _ zN (cC _ _ zN (cC _ _ (bW O) (cC _ _ zN (cC _ _ zN (cC _ _ (bW O) ?_)))))
   refine Zg (λh=>?_) λh=>?_
   ·have g:a<e:=by
     rcases d_ u with d|d
     ·exact d
     ·subst d;exact absurd h (t j)
    have hn:=hQ g
    refine cC _ _ (aq O O) ?_
    repeat' (with_reducible first|exact hn|exact vb _ _|exact nf _ _|exact S0 _ _ _|exact dP _ _ _ _|exact OL _ _|exact su _|exact eP _ _ _ _|exact bL _ _|exact bC _ _|exact bO _ _|exact aZ|refine Zi A ?_|refine Zf A ?_|refine YG A ?_|refine e_ ?_ ?_)
   ·have g:a=e:=by
     rcases d_ u with d|d
     ·exact absurd (r a y d) h
     ·exact d
    subst g
    exact ZK
  ·have g:a=e:=by omega
   subst g
   exact ZK
 exact go _ λh=>⟨⟨a+1,rfl,O,O⟩,(by show e-((a:Int)+1).toNat<e-(a:Int).toNat;omega),rfl⟩
def zM(F:Nat->ay)(a:bj)(j:Nat):Nat:=aP (λi=>a.C (jy (tx F a) a.m j+i)) (jy (tx F a) a.m (j+1)-jy (tx F a) a.m j)
def xu(F:Nat->ay)(a:bj)(j:Nat):Nat:=jy (tx F a) a.m (j+1)-jy (tx F a) a.m j
def Rn{q:Query}{k:Nat}{F:Nat->ay}(n:Nat)(X:Nat->bj)(no:Nat)(K:Nat->Nat->Int)(S:Nat->Nat->List UInt8)(i:Int){d:bj}(b C:Nat->List UInt8)(m:Int->Nat)(c:Int->Int)(r:Nat)(zE:Int)(j:Int)(a s e:Nat)(l:ct q=true)(ha:q.a=1)(o:Wz k d)(R:d.m<=1000)(hL:fA d.L d.m)(hG:fA d.G d.m)
  (p:m j=a) (t:m (j+1)=a+1) (u:c j=(s:Int)) (z1:c (j+1)=(e:Int)) (U:a<=1000) (V:s<e) (W:e<=d.m) (lp:aE PP II false (aD II 23 17032) 20 (RJ q k F n X no K S i d b C a (s:Int) (s:Int)) (RL q k F n X no K S i d b C a (s:Int) (e:Int)))
  (v:b a=bu (aP (λi=>d.C (s+i)) (e-s))) (w:C a=bu (e-s)) (Q:Prop) (hn:Q):
  kr [Oi q] [(17032,20,RJ q k F n X no K S i d b C (m j) (c j) (c j),RL q k F n X no K S i d b C (m j) (c j) (e:Int))] 23 15007 17 (Rl q k F n X no K S i d b C m c) (λ_=>Rm q k F n X no K S i d b C r zE) (λi=>i+1) Q j:=by
 have Y:M d.m=(d.m:Int):=rfl
 have Z:M k=(k:Int):=rfl
 obtain⟨t3,t4⟩:=o s O
 have d1:z ((e:Int)-(s:Int))=e-s:=O
 have f:=pn (lh b) a (λj σ=>tn σ _ j) A
 have g:=pn (lh C) a (λj σ=>tn σ _ j) A
 have x:=pn eu a (λj σ=>pr σ j) A
 unfold lh at f g
 rw[v]at f
 rw[w]at g
 have y:(a_ (a<=a)&&true&&true&&a_ ((a+1)*32<=140737488355328)&&true)=true:=by rw[bW (dw a),bW (O:(a+1)*32<=140737488355328)];rfl
 have D:(a_ (0<=(s:Int))&&a_ ((s:Int)<=(e:Int))&&a_ ((e:Int)<=M d.m))=true:=by simp only[bf,bn];omega
 have E:(a_ (0<=(s:Int))&&a_ ((s:Int)<M d.m))=true:=by simp only[bf,bn];omega
 have H:(a_ (0<=d.T s)&&a_ (d.T s<M k))=true:=by simp only[bf,bn];omega
 have I:(lD (e-s) λi=>az d.L d.G d.C (s+i))=true:=List.all_eq_true.2 λ_ _=>rfl
 have J:(bX (e-s) λi=>d.L (s+i))=true:=dn O λi hi=>hL (s+i) O
 have N:(bX (e-s) λi=>d.G (s+i))=true:=dn O λi hi=>hG (s+i) O
 have P:(a_ (d.m=d.m)&&true&&f_ (c_ d.m) λi=>a_ (d.T i=d.T i)&&true)=true:=zA
 rw[Oj,p,t,u,z1,d1,show z (s:Int)=s from rfl,jv,l,ha,I,y,D,E,H,P,bW (rfl:d.T s=d.T s),bW (rfl:bu (e-s)=bu (e-s))]
 refine Zg (λh=>?_) λh=>absurd (O:(s:Int)<M d.m) h
 refine⟨lp,?_⟩
 repeat' (first|with_reducible exact hn|exact x|exact f|exact g|with_reducible refine cC _ _ A ?_|refine cC _ _ (by rw[J,N];rfl) ?_|with_reducible exact vb _ _|with_reducible exact nf _ _|with_reducible exact S0 _ _ _|with_reducible exact dP _ _ _ _|with_reducible exact OL _ _|with_reducible exact su _|with_reducible exact eP _ _ _ _|with_reducible exact bL _ _|with_reducible exact bC _ _|with_reducible exact bO _ _|with_reducible exact aZ|with_reducible refine Zi A ?_|with_reducible refine Zf A ?_|with_reducible refine YG A ?_|with_reducible refine e_ ?_ ?_)
def VZ{q:Query}{k:Nat}{F:Nat->ay}(n:Nat)(X:Nat->bj)(no:Nat)(K:Nat->Nat->Int)(S:Nat->Nat->List UInt8)(i:Int){c:bj}(a C:Nat->List UInt8)(m:Int->Nat)(b:Int->Int)(r:Nat)(j d:Int)(e:m j=r)(f:b j=(c.m:Int))(Q:Prop):
  kr [Oi q] [(17032,20,RJ q k F n X no K S i c a C (m j) (b j) (b j),RL q k F n X no K S i c a C (m j) (b j) d)] 23 15007 17 (Rl q k F n X no K S i c a C m b) (λ_=>Rm q k F n X no K S i c a C r (c.m:Nat)) (λi=>i+1) Q j:=by
 have g:M c.m=(c.m:Int):=rfl
 rw[Oj,e,f]
 refine Zg (λh=>absurd h O) λh=>?_
 exact ZK
def UF{q:Query}{k:Nat}{F:Nat->ay}(n:Nat)(X:Nat->bj)(no:Nat)(K:Nat->Nat->Int)(S:Nat->Nat->List UInt8)(i:Int){d:bj}{r:Nat}(o:ct q=true)(ha:q.a=1)(g:Wz k d)(h:d.m<=1000)(hL:fA d.L d.m)(hG:fA d.G d.m)
  (w:r<=d.m) (s:jy (tx F d) d.m r=d.m) (rs:∀j,j<r->jy (tx F d) d.m j<d.m/\jy (tx F d) d.m (j+1)=vc (tx F d) d.m (jy (tx F d) d.m j)):
  aE PP II false (aD II 23 15007) 17 (Rl q k F n X no K S i d (λj=>bu (zM F d j)) (λj=>bu (xu F d j)) z (λj=>(jy (tx F d) d.m j.toNat:Nat)) 0) (Rm q k F n X no K S i d (λj=>bu (zM F d j)) (λj=>bu (xu F d j)) r (d.m:Nat)):=by
 have key:=aE.Vk (ι:=Int) iw [Oi q] 1000 (λj=>[(17032,20,RJ q k F n X no K S i d (λj=>bu (zM F d j)) (λj=>bu (xu F d j)) j.toNat (jy (tx F d) d.m j.toNat:Nat) (jy (tx F d) d.m j.toNat:Nat),RL q k F n X no K S i d (λj=>bu (zM F d j)) (λj=>bu (xu F d j)) j.toNat (jy (tx F d) d.m j.toNat:Nat) (vc (tx F d) d.m (jy (tx F d) d.m j.toNat):Nat))]) (c:=aD II 23 15007) (ir:=false) 17 (λj=> ∃a:Nat,j=(a:Int)/\a<=r) (λj=>Rl q k F n X no K S i d (λj=>bu (zM F d j)) (λj=>bu (xu F d j)) z (λj=>(jy (tx F d) d.m j.toNat:Nat)) j) (λ_=>Rm q k F n X no K S i d (λj=>bu (zM F d j)) (λj=>bu (xu F d j)) r (d.m:Nat)) (λj=>r-j.toNat) (λj=>j+1) 0 A ⟨0,rfl,k_ r⟩ λp t=>?_
 ·exact key
 obtain⟨a,rfl,e⟩:=t
 rcases d_ e with b|b
 ·obtain⟨l,f⟩:=rs a b
  obtain⟨u,v,_,_⟩:=xn (tx F d) l
  exact Rn n X no K S i _ _ z (λj=>(jy (tx F d) d.m j.toNat:Nat)) r _ (a:Int) a _ _ o ha g h hL hG A O A (by show((jy (tx F d) d.m ((a:Int)+1).toNat:Nat):Int)=_;rw[show((a:Int)+1).toNat=a+1 by omega,f]) O u v (UE n X no K S i _ _ a l g h) (by show bu (zM F d a)=_;unfold zM;rw[f];rfl) (by show bu (xu F d a)=_;unfold xu;rw[f];rfl) _ ⟨⟨a+1,rfl,O⟩,(by show r-((a:Int)+1).toNat<r-(a:Int).toNat;omega),rfl⟩
 ·subst b
  exact VZ n X no K S i _ _ z (λj=>(jy (tx F d) d.m j.toNat:Nat)) a (a:Int) _ A (by show((jy (tx F d) d.m a:Nat):Int)=_;rw[s]) _
section
def Ls(Z:Nat->Int)(m:Nat):Nat:=Classical.choose (Rj Z m)
def HA(Z:Nat->Int)(m:Nat):Ls Z m<=m/\jy Z m (Ls Z m)=m/\∀j,j<Ls Z m->jy Z m j<m/\jy Z m (j+1)=vc Z m (jy Z m j):=Classical.choose_spec (Rj Z m)
def uq(X:Nat->bj)(i k:Nat):List UInt8:=match k with
 |0=>bu (aP (X i).C (X i).m)
 |1=>[49]
 |2=>bu (X i).m
 |_=>[49]
def Ke{q:Query}(ha:q.a=1)(X:Nat->bj):jC q X=uq X:=by
 funext i k
 match k with
 |0=>exact congrArg Prod.fst (zu ha _ _ _)
 |1=>exact congrArg Prod.snd (zu ha _ _ _)
 |2=>exact congrArg Prod.fst (zK ha _ _ _)
 |_+3=>exact congrArg Prod.snd (zK ha _ _ _)
def Om:∀d,aP (λ_=>true) d=d
 |0=>rfl
 |d+1=>by rw[iE (p:=λ_=>true) A,Om d]
def On(V:Nat->Nat):ru (pS (lh λj=>bu (V j)))=V:=by
 funext j
 exact cq (V j)
def UG(F:Nat->ay)(a:bj):pM (ru (pS (lh λj=>bu (zM F a j)))) (Ls (tx F a) a.m)=aP a.C a.m:=by
 obtain⟨d,b,c⟩:=HA (tx F a) a.m
 have:=Hs (tx F a) a.m a.C _ c
 rw[b]at this
 rw[On];exact this
def Ro(F:Nat->ay)(a:bj):pM (ru (pS (lh λj=>bu (xu F a j)))) (Ls (tx F a) a.m)=a.m:=by
 obtain⟨d,b,c⟩:=HA (tx F a) a.m
 have:=Hs (tx F a) a.m (λ_=>true) _ c
 simp only[b,Om]at this
 rw[On];exact this
def Oo(F:Nat->ay)(a:bj)(j:Nat):xu F a j<=a.m:=by
 have:=Hr (tx F a) a.m (j+1)
 unfold xu;omega
def FX{m:Nat}{V:Nat->Nat}(a:m<=1000)(h:∀j,V j<=m)(n:Nat):mY n (lh λj=>bu (V j))=true:=vo λj _=>⟨K4 (by have:=h j;omega),by rw[cq];have:=h j;omega⟩
def Lt(n:Nat)(a:Nat->List UInt8):(f_ (c_ n) (λi=>bt.free (lh a i))&&a_ (n<=n))=true:=by
 rw[bW (dw n),h_]
 exact List.all_eq_true.2 λ_ _=>rfl
def Bj(n:Nat):(f_ (c_ n) (λi=>bt.free (eu i))&&a_ (n<=n))=true:=Lt n λ_=>[49]
def Rp{q:Query}{k:Nat}{F:Nat->ay}(n:Nat)(X:Nat->bj)(K:Nat->Nat->Int)(S:Nat->Nat->List UInt8)(N:Int->Nat)(b C:Nat->List UInt8)(m:Int->Nat)(c:Int->Int)(r:Nat)(zE:Int)(i:Int)(a:Nat)(hi:i=(a:Int))(f:a<n)(hn:n<=400)(g:N i=a)(d:N (i+1)=a+1)(l:r<=400)(o:m 0=0)(p:0=c 0)
  (lp:aE PP II false (aD II 23 15007) 17 (Rl q k F n X a K S i (X a) b C m c 0) (Rm q k F n X a K S i (X a) b C r zE)) (s:mY r (lh b)=true) (t:mY r (lh C)=true) (u:K a=(X a).W) (v:S a 0=bu (pM (ru (pS (lh b))) r)) (w:S a 1=[49]) (x:S a 2=bu (pM (ru (pS (lh C))) r)) (y:S a 3=[49]) (Q:Prop) (hQ:Q):
  kr [tc] [(15007,17,Rl q k F n X (N i) K S i (X (z i)) b C m c 0,Rm q k F n X (N i) K S i (X (z i)) b C r zE)] 23 11001 16 (Vj q k F n X K S N) (λ_=>Vn q n K S) (λi=>i+1) Q i:=by
 have L:M n=(n:Int):=rfl
 have D:z i=a:=O
 have e:=pn (aX q.ng K S) a (λj σ=>oM _ _ _ j σ) A
 unfold aX at e
 rw[v,w,x,y,u]at e
 have E:(a_ (a<=a)&&true&&true&&a_ ((a+1)*152<=140737488355328)&&true)=true:=by rw[bW (dw a),bW (O:(a+1)*152<=140737488355328)];rfl
 have G:aN g_ (i+1)=true:=aq O O
 have H:(a_ (0<=i)&&a_ (i<M n))=true:=by simp only[bf,bn];omega
 rw[Ol,D,g,d,o,s,t,E,G,H,ni,kV l,xq]
 have f1:=Lt r b
 have I:=Lt r C
 have J:=Bj r
 refine Zg (λh=>?_) λh=>absurd (O:i<M n) h
 refine cC _ _ A ⟨lp,?_⟩
 repeat' (first|with_reducible exact hQ|exact e|with_reducible refine cC _ _ f1 ?_|with_reducible refine cC _ _ I ?_|with_reducible refine cC _ _ J ?_|with_reducible refine cC _ _ A ?_|with_reducible exact vb _ _|with_reducible exact nf _ _|with_reducible exact S0 _ _ _|with_reducible exact dP _ _ _ _|with_reducible exact eP _ _ _ _|with_reducible exact bL _ _|with_reducible exact bC _ _|with_reducible exact bO _ _|with_reducible exact aZ|with_reducible refine Zi A ?_|with_reducible refine Zf A ?_|with_reducible refine Zf p ?_|with_reducible refine YG A ?_|with_reducible refine e_ ?_ ?_)
def V0{q:Query}{k:Nat}{F:Nat->ay}(n:Nat)(X:Nat->bj)(K:Nat->Nat->Int)(S:Nat->Nat->List UInt8)(N:Int->Nat)(a C:Nat->List UInt8)(m:Int->Nat)(b:Int->Int)(r:Nat)(zE i:Int)(hi:i=(n:Int))(c:N i=n)(Q:Prop):
  kr [tc] [(15007,17,Rl q k F n X (N i) K S i (X (z i)) a C m b 0,Rm q k F n X (N i) K S i (X (z i)) a C r zE)] 23 11001 16 (Vj q k F n X K S N) (λ_=>Vn q n K S) (λi=>i+1) Q i:=by
 have d:M n=(n:Int):=rfl
 rw[Ol,c]
 refine Zg (λh=>absurd h O) λh=>?_
 repeat' (with_reducible first|exact trivial|exact eP _ _ _ _|exact bC _ _|exact bO _ _|exact aZ|refine Zi A ?_|refine Zf A ?_|refine YG A ?_|refine e_ ?_ ?_)
def UK{q:Query}{k:Nat}{F:Nat->ay}(n:Nat)(X:Nat->bj)(hn:n<=400)(e:ct q=true)(ha:q.a=1)(hX:∀a,a<n->Wz k (X a)/\(X a).m<=400/\fA (X a).L (X a).m/\fA (X a).G (X a).m):
  aE PP II false (aD II 23 11001) 16 (Vj q k F n X (dK X) (uq X) z 0) (Vn q n (dK X) (uq X)):=by
 have key:=aE.Vk (ι:=Int) iw [tc] 1000 (λi=>[(15007,17,Rl q k F n X i.toNat (dK X) (uq X) i (X (z i)) (λl=>bu (zM F (X (z i)) l)) (λl=>bu (xu F (X (z i)) l)) z (λl=>(jy (tx F (X (z i))) (X (z i)).m l.toNat:Nat)) 0,Rm q k F n X i.toNat (dK X) (uq X) i (X (z i)) (λl=>bu (zM F (X (z i)) l)) (λl=>bu (xu F (X (z i)) l)) (Ls (tx F (X (z i))) (X (z i)).m) ((X (z i)).m:Nat))]) (c:=aD II 23 11001) (ir:=false) 16 (λi=> ∃a:Nat,i=(a:Int)/\a<=n) (λi=>Vj q k F n X (dK X) (uq X) z i) (λ_=>Vn q n (dK X) (uq X)) (λi=>n-i.toNat) (λi=>i+1) 0 A ⟨0,rfl,k_ n⟩ λp f=>?_
 ·exact key
 obtain⟨a,rfl,d⟩:=f
 rcases d_ d with b|b
 ·obtain⟨g,t,h,o⟩:=hX a b
  obtain⟨r1,r,s⟩:=HA (tx F (X a)) (X a).m
  have hA:∀j,zM F (X a) j<=(X a).m:=λj=>o_ (jV _ _) (Oo F (X a) j)
  exact Rp n X (dK X) (uq X) z (λl=>bu (zM F (X a) l)) (λl=>bu (xu F (X a) l)) z (λl=>(jy (tx F (X a)) (X a).m l.toNat:Nat)) (Ls (tx F (X a)) (X a).m) ((X a).m:Nat) (a:Int) a A b hn A O O A A (UF n X a (dK X) (uq X) (a:Int) e ha g O h o r1 r s) (FX O hA _) (FX O (Oo F (X a)) _) A (congrArg bu (UG F (X a)).symm) A (congrArg bu (Ro F (X a)).symm) A _ ⟨⟨a+1,rfl,O⟩,(by show n-((a:Int)+1).toNat<n-(a:Int).toNat;omega),rfl⟩
 ·subst b
  exact V0 a X (dK X) (uq X) z _ _ _ _ _ _ (a:Int) A A _
def V1{q:Query}{k:Nat}{F:Nat->ay}(b:ct (gW q)=true)(c:cX k F=true):
  af PP II 23 [.agg (aY (gW q)),.ab k 12 (eD F)] Hm (.ret (.bK [.ab (r8 (gW q) k F) 9 (aX q.ng (FM (gW q) k F) (oU (gW q) k F)),.int g_ 0]) Hm):=by
 have o:=jS c
 have p:=(lG (gW q) F k).len
 have r:=jR c
 obtain⟨s,t,u⟩:=y6 F (eb b).2.2 k r
 have d:=UK (q:=gW q) (k:=k) (F:=F) (aV (gW q) F k).length (og (gW q) (aV (gW q) F k)) O b A λa ha=>by
  have e:=u4 (gW q).ng (aV (gW q) F k).length (fj (gW q).ng (aV (gW q) F k)) ha
  refine⟨λj v=>?_,o_ (s _ e) o,t _ e,u _ e⟩
  obtain⟨f,f1,g,_⟩:=Ho (gW q) F k ha j v
  rw[g];omega
 have w:=Ut (q:=gW q) (F:=F) o
 have x:r8 (gW q) k F=(aV (gW q) F k).length:=rfl
 have y:FM (gW q) k F=dK (og (gW q) (aV (gW q) F k)):=rfl
 have D:oU (gW q) k F=uq (og (gW q) (aV (gW q) F k)):=Ke A _
 rw[x,y,D]
 refine VV (ks:=[u5 (gW q),Wk,J7 (gW q) (aV (gW q) F k).length (og (gW q) (aV (gW q) F k))]) (T:=[(5001,15,VW (gW q) k F z 0,VX (gW q) k F),(11001,16,Vj (gW q) k F (aV (gW q) F k).length (og (gW q) (aV (gW q) F k)) (dK (og (gW q) (aV (gW q) F k))) (uq (og (gW q) (aV (gW q) F k))) z 0,Vn (gW q) (aV (gW q) F k).length (dK (og (gW q) (aV (gW q) F k))) (uq (og (gW q) (aV (gW q) F k))))]) ?_
 have h:J6 (gW q) (aV (gW q) F k).length (og (gW q) (aV (gW q) F k)) k (λj=>aF (F j))=true:=FW.2 ⟨rfl,rfl⟩
 generalize (aV (gW q) F k).length=n at d h⊢
 generalize og (gW q) (aV (gW q) F k)=X at d h⊢
 have is:=jv (gW q)
 have E:ie k (λi=>aF (F i))=true:=by
  unfold ie
  rw[gr,Bool.true_and]
  exact List.all_eq_true.2 λi hi=>r i (List.mem_range.1 hi)
 have f1:(f_ (c_ k) (λi=>bt.free (aF (F i)))&&a_ (k<=k))=true:=by
  rw[bW (dw k),h_]
  exact List.all_eq_true.2 λ_ _=>rfl
 have g:(f_ (c_ n) (λi=>bt.free (aX q.ng (dK X) (uq X) i))&&a_ (n<=n))=true:=by
  rw[bW (dw n),h_]
  exact List.all_eq_true.2 λ_ _=>rfl
 have is:qT (gW q) [.ab q.nw 3 (au q.C),.ab q.ng 1 (aR q.G),.int g_ 1,.int g_ q.fl,.str q.nu,.str q.de,.int g_ 0]=true:=is
 have l:=Bl (rfl:Hm.get 0=_) (rfl:Hm.get 1=_) (rfl:Hm.get 2=_) (rfl:Hm.get 3=_) (rfl:Hm.get 6=_) (rfl:Hm.get 9=_) (rfl:Hm.get 10=_) (rfl:Hm.get 13=_)
 rw[VY,is,b,Bi,show qP (eD F)=F from rfl,c,h,E,f1,g,kV (O:k<=1000000)]
 have m:∀σ:Nat->Nat,AV.le σ (.bK [.ab n 9 (aX q.ng (dK X) (uq X)),.int g_ 0]) (.bK [.ab n 9 (aX q.ng (dK X) (uq X)),.int g_ 0]):=λσ=>⟨⟨rfl,rfl,λj _=>oM _ _ _ j σ⟩,⟨rfl,rfl⟩,trivial⟩
 refine cC _ _ A (cC _ _ A ⟨w,?_⟩)
 repeat' (first|exact m|with_reducible exact d|with_reducible refine cC _ _ A ?_|refine cC _ _ l ?_|with_reducible exact vb _ _|with_reducible exact nf _ _|with_reducible exact S0 _ _ _|with_reducible exact eP _ _ _ _|with_reducible exact bC _ _|with_reducible exact bO _ _|with_reducible exact aZ|with_reducible refine Zi A ?_|with_reducible refine Zf A ?_|refine YG A ?_|with_reducible refine e_ ?_ ?_)
open Classical in
def Bq(q:Query)(a:Nat)(b:Nat->Nat->Int)(c:Nat->Nat->List UInt8)(k:Nat)(h:Nat->List AV):Bool:=a_ (r8 q k (bP h)=a/\FM q k (bP h)=b/\oU q k (bP h)=c)
open Classical in
def zO{q:Query}{a:Nat}{b:Nat->Nat->Int}{c:Nat->Nat->List UInt8}{k:Nat}{h:Nat->List AV}:Bq q a b c k h=true↔r8 q k (bP h)=a/\FM q k (bP h)=b/\oU q k (bP h)=c:=by
 unfold Bq
 exact decide_eq_true_iff
def Vo(q:Query)(a:Nat)(b:Nat->Nat->Int)(c:Nat->Nat->List UInt8):aC PP II:=aC.s9 13
 (λX args d=>match args with
  |[.agg cs,.ab k 10 h]=>X.ak (qT q cs&&ct q&&fh k h&&cX k (bP h)&&Bq q a b c k h) (d (.bK [.ab a 9 (aX q.ng b c),.int g_ 0]))
  |_=>X.fail)
 λX sem hX args d h=>by
  split at h
  ·obtain⟨e,f⟩:=hX.ak _ _ h
   simp only[bf]at e
   obtain⟨⟨⟨⟨a1,a2⟩,g⟩,a4⟩,i⟩:=e
   obtain⟨j,l,m⟩:=zO.1 i
   obtain⟨l1,l2⟩:=mi a1
   rw[<-j,<-l,<-m]at f
   refine⟨_,f,λ_=>rfl,λσ=>?_,af.dA (A8 a2 a4) l1 (fq g)⟩
   show [AV.bD σ (.agg _),_]=_
   rw[l2];rfl
  ·exact zR
def Wt(q:Query)(a:Nat)(b:Nat->Nat->Int)(c:Nat->Nat->List UInt8):aC PP II:=aC.J0 23
 (λX args d=>match args with
  |[.agg cs,.ab k 12 h]=>X.ak (qT (gW q) cs&&ct (gW q)&&JR k h&&cX k (qP h)&&Bq (gW q) a b c k (λi=>aF (qP h i))) (d (.bK [.ab a 9 (aX q.ng b c),.int g_ 0]))
  |_=>X.fail)
 λX sem hX args d h=>by
  split at h
  ·obtain⟨e,f⟩:=hX.ak _ _ h
   simp only[bf]at e
   obtain⟨⟨⟨⟨a1,a2⟩,g⟩,a4⟩,j⟩:=e
   obtain⟨l,m,n⟩:=zO.1 j
   obtain⟨l1,l2⟩:=mi a1
   rw[<-l,<-m,<-n]at f
   refine⟨_,f,λ_=>rfl,λσ=>?_,af.dA (V1 a2 a4) l1 (Hq g)⟩
   show [AV.bD σ (.agg _),_]=_
   rw[l2];rfl
  ·exact zR
end
section
open Go.Sort Go.Shelf Go.Proofs
def JY(le:Int->Int->Bool)(a:Int):List Int->List Int
 |[]=>[a]
 |b::l=>bif le a b then a::b::l else b::JY le a l
def zg(le:Int->Int->Bool):List Int->List Int
 |[]=>[]
 |a::l=>JY le a (zg le l)
def tq(le:Int->Int->Bool)(a:Int):∀l,(JY le a l).Perm (a::l)
 |[]=>List.Perm.refl _
 |b::l=>by
  unfold JY
  cases le a b with
  |true=>exact List.Perm.refl _
  |false=>exact((tq le a l).cons b).trans (List.Perm.swap a b l)
def xo(le:Int->Int->Bool):∀l,(zg le l).Perm l
 |[]=>List.Perm.refl _
 |a::l=>(tq le a _).trans ((xo le l).cons a)
def zj{le:Int->Int->Bool}{r:Int->Int->Prop}(g:∀x y,le x y=true↔r x y)(k:∀x y c,r x y->r y c->r x c)(d:∀x y,r x y∨r y x)(a:Int):∀{l:List Int},l.Pairwise r->(JY le a l).Pairwise r
 |[],_=>List.pairwise_singleton _ _
 |b::l,h=>by
  rw[List.pairwise_cons]at h
  unfold JY
  cases i:le a b with
  |true=>
   have f:=(g _ _).1 i
   exact List.pairwise_cons.2 ⟨λx hx=>by rcases List.mem_cons.1 hx with rfl|hx;exact f;exact k _ _ _ f (h.1 x hx),List.pairwise_cons.2 h⟩
  |false=>
   have j:r b a:=(d a b).elim (λe=>by rw[(g _ _).2 e]at i;cases i) id
   exact List.pairwise_cons.2 ⟨λx hx=>by rcases List.mem_cons.1 ((tq le a l).mem_iff.1 hx)with rfl|hx;exact j;exact h.1 x hx,zj g k d a h.2⟩
def xp{le:Int->Int->Bool}{r:Int->Int->Prop}(d:∀x y,le x y=true↔r x y)(e:∀x y b,r x y->r y b->r x b)(c:∀x y,r x y∨r y x):∀l,(zg le l).Pairwise r
 |[]=>List.Pairwise.nil
 |a::l=>zj d e c a (xp d e c l)
def Dr{le:Int->Int->Bool}{r:Int->Int->Prop}(f:∀x y,le x y=true↔r x y)(g:∀x y c,r x y->r y c->r x c)(e:∀x y,r x y∨r y x)(d:∀x y,r x y->r y x->x=y){l m:List Int}(h:m.Perm l)(i:m.Pairwise r):m=zg le l :=
 List.Perm.eq_of_pairwise (λa b _ _=>d a b) i (xp f g e l) (h.trans (xo le l).symm)
def Bg(x y:Int):ltOf Lib.compareInt x y=a_ (x<y):=by
 unfold ltOf Lib.compareInt
 by_cases h:x<y
 ·simp[h]
 ·by_cases a:x=y
  ·simp[a]
  ·simp[h];split<;>omega
def gq(k:Nat)(W:Nat->Int):(dp (ltOf Lib.compareInt) k W).Pairwise (· <= ·)/\(dp (ltOf Lib.compareInt) k W).Perm ((c_ k).map W):=by
 unfold dp
 refine⟨?_,l_ _ _⟩
 refine(i_ (le:=λx y=>!ltOf Lib.compareInt y x) (λa b c d e=>?_) (λa b=>?_) _).imp λh=>?_
 ·simp only[Bg,b_,iK]at*;omega
 ·simp only[Bg,m_,b_,iK];omega
 ·simp only[Bg,b_,iK]at h;omega
def sd(k:Nat)(W:Nat->Int):(dp (ltOf pP) k W).Pairwise (λx y=>y<=x)/\(dp (ltOf pP) k W).Perm ((c_ k).map W):=by
 have e:∀x y,ltOf pP x y=a_ (y<x):=λx y=>Bg y x
 unfold dp
 refine⟨?_,l_ _ _⟩
 refine(i_ (le:=λx y=>!ltOf pP y x) (λa b c d f=>?_) (λa b=>?_) _).imp λh=>?_
 ·simp only[e,b_,iK]at*;omega
 ·simp only[e,m_,b_,iK];omega
 ·simp only[e,b_,iK]at h;omega
def YK(k:Nat)(W:Nat->Int)(i:Nat):Int:=(zg (λx y=>a_ (x<=y)) ((c_ k).map W)).getD i 0
def YL(k:Nat)(W:Nat->Int)(i:Nat):Int:=(zg (λx y=>a_ (y<=x)) ((c_ k).map W)).getD i 0
def tu:bQ=YK:=by
 funext k W i
 unfold bQ YK
 rw[Dr (r:=(· <= ·)) (le:=λx y=>a_ (x<=y)) (λx y=>decide_eq_true_iff) (λ_ _ _=>p_) q_ (λ_ _=>n_) (gq k W).2 (gq k W).1]
def tw:cK=YL:=by
 funext k W i
 unfold cK YL
 rw[Dr (r:=λx y=>y<=x) (le:=λx y=>a_ (y<=x)) (λx y=>decide_eq_true_iff) (λ_ _ _ a b=>p_ b a) (λx y=>q_ y x) (λ_ _ a b=>n_ b a) (sd k W).2 (sd k W).1]
end
def ur(i:Nat):ay:=match i with|0=>⟨0,0,0,0,0,-1,0,10,20,1⟩|1=>⟨0,1,0,0,0,0,0,12,12,2⟩|_=>⟨0,2,0,0,0,0,0,5,30,4⟩
def zm(nw:Nat)(op a fl:Int)(nu de:List UInt8):Query:=⟨nw,λ_ k=>match k with|0=>8|1=>op|_=>12,0,λ_=>0,a,fl,nu,de,0⟩
def oX(a fl:Int):Query×List UInt8×List UInt8 :=
 if a=1 then(zm 1 4 1 0 [] [],[49],[51])else if a=2 then(if fl=8 then(zm 0 0 2 8 [] [],[50,55],[54,50])else(zm 1 4 2 7 [] [],[50],[55]))
 else if a=3 then(zm 1 4 3 8 [] [],[49,50],[50,49])else if a=4 then(zm 1 3 4 8 [] [],[48],[49,49])else(zm 0 0 5 8 [49] [50],[49,48],[50,48])
def Dv(lo hi:List UInt8):AV:=.bK [.ab 1 9 (λ_=>[.ab 0 1 (λ_=>[]),.str lo,.str [49],.str hi,.str [49],.str [48],.str [49],.str [48],.str [49]]),.int g_ 0]
def sg(q:Query)(lo hi:List UInt8):Prop:=(r8 q 3 ur,oU q 3 ur 0 0,oU q 3 ur 0 1,oU q 3 ur 0 2,oU q 3 ur 0 3)=(1,lo,[49],hi,[49])
def Y0:sg (zm 1 4 1 0 [] []) [49] [51]:=by
 delta sg oU jC eO dQ bN br c8 da jO iD
 rw[tu,tw]
 kernel_rfl
def Sn:sg (zm 0 0 2 8 [] []) [50,55] [54,50]:=by
 delta sg oU jC eO dQ bN br c8 da jO iD
 rw[tu,tw]
 kernel_rfl
def Yg:sg (zm 1 4 2 7 [] []) [50] [55]:=by
 delta sg oU jC eO dQ bN br c8 da jO iD
 rw[tu,tw]
 kernel_rfl
def Y2:sg (zm 1 4 3 8 [] []) [49,50] [50,49]:=by
 delta sg oU jC eO dQ bN br c8 da jO iD
 rw[tu,tw]
 kernel_rfl
def Y3:sg (zm 1 3 4 8 [] []) [48] [49,49]:=by
 delta sg oU jC eO dQ bN br c8 da jO iD
 rw[tu,tw]
 kernel_rfl
def Y4:sg (zm 0 0 5 8 [49] [50]) [49,48] [50,48]:=by
 delta sg oU jC eO dQ bN br c8 da jO iD
 rw[tu,tw]
 kernel_rfl
def S3(a fl:Int):sg (oX a fl).1 (oX a fl).2.1 (oX a fl).2.2/\ct (oX a fl).1=true/\(oX a fl).1.ng=0:=by
 unfold oX
 split
 ·exact⟨Y0,U,rfl⟩
 split
 ·split
  ·exact⟨Sn,U,rfl⟩
  ·exact⟨Yg,U,rfl⟩
 split
 ·exact⟨Y2,U,rfl⟩
 split
 ·exact⟨Y3,U,rfl⟩
 ·exact⟨Y4,U,rfl⟩
def Ht{n g:Nat}{K:Nat->Nat->Int}{S:Nat->Nat->List UInt8}{lo hi:List UInt8}(a:g=0)(hn:n=1)(b:S 0 0=lo)(c:S 0 1=[49])(d:S 0 2=hi)(e:S 0 3=[49]):
  AV.le (λl=>l) (.bK [.ab n 9 (aX g K S),.int g_ 0]) (Dv lo hi):=by
 subst a hn b d
 refine⟨⟨rfl,rfl,λi hi=>?_⟩,⟨rfl,rfl⟩,trivial⟩
 have:i=0:=O
 subst this
 refine⟨⟨rfl,rfl,λj f=>absurd f (lZ j)⟩,rfl,c,rfl,e,rfl,rfl,rfl,rfl,trivial⟩
def af.S4{P:Program}{I:ba}{f:FuncId}{args:List AV}{H:AH}{a a':AV}(h:af P I f args H (.ret a H))(k:AV.le (λl=>l) a a'):af P I f args H (.ret a' H):=λc ρ w vs hG j m=>by
 have post:∀e w',(CO.ret a H).post c ρ e w'->(CO.ret a' H).post c ρ e w':=λe w' i=>by
  cases e with
  |returned v=>
   obtain⟨ρ',b,d,o⟩:=i
   refine⟨ρ',b,d,?_⟩
   obtain⟨u,us,e,q,_⟩:=aU.tQ (show bt.le _ [a] [a']from⟨k,trivial⟩) (aU.aL.2 ⟨o,(rfl:aU ρ' [] [])⟩)
   cases e
   exact q
  |panicked s=>exact i.elim
  |outgrown=>exact i.elim
 rcases h c ρ w vs hG j m with⟨b,d⟩|⟨v,w',b,d⟩
 ·exact .inl ⟨b,d.mono post⟩
 ·exact .inr ⟨v,w',b,post _ _ d⟩
def UO(a fl:Int):af PP II 13 [.agg (aY (oX a fl).1),cm 3 ur] HR (.ret (Dv (oX a fl).2.1 (oX a fl).2.2) HR):=by
 obtain⟨b,c,d⟩:=S3 a fl
 simp only[sg,Prod.mk.injEq]at b
 obtain⟨e,f,g,h,i⟩:=b
 exact(A8 (k:=3) (F:=ur) c U).S4 (Ht d e f g h i)
def Pd(n:Nat)(a:Nat->Int)(C:Int->Nat->Int)(i:Int):St:={t:=Tr.ofList [(1,.ab n 1 (ae a)),(2,.fn 61 [] []),(7,.slice 12 0 0 n (some n) 1),(18,.ab n 1 (ae a)),(19,.int g_ (M n)),(20,.int g_ i)],nt:=38,H:={n:=13,t:=Tr.ofList [(12,.rows n 1 (ae (C i)) (.ty 3))]},df:=[]}
def Pe(n:Nat)(C:Nat->Int):GE:=.one (.x 0 {t:=Tr.ofList [(7,.slice 12 0 0 n (some n) 1)],nt:=38,H:={n:=13,t:=Tr.ofList [(12,.rows n 1 (ae C) (.ty 3))]},df:=[]})
def Oy(n:Nat)(a:Nat->Int)(C:Int->Nat->Int)(Z:Nat->Int)(i:Int)(Q:Prop):(kr [] [] 174 4001 13 (Pd n a C) (λ_=>Pe n Z) (λi=>i+1) Q i)=(let b:=(a_ (0<=i)&&a_ (i<M n));(ah (a_ (i<M n)) (B b (B (a_ (0+i.toNat<n)) (B b (B (aN g_ (C i (0+i.toNat)+a i.toNat)) (B b (B (a_ (0+i.toNat<n)) (B (aN g_ (i+1)) (zyN n (an n (λc=>[AV.int g_ (bif a_ (c=0+i.toNat)then C i (0+i.toNat)+a i.toNat else C i c)]) (ae (C (i+1)))/\zyN n (zyN n (zyI (M n) (zyN n (zyR n (ae a) (zyI (i+1) (zyN n (zyR n (ae a) Q)))))))))))))))) (zyN n (an n (ae (C i)) (ae Z)/\zyN n (zyN n True))))):=U
def UP(n:Nat)(a b:Nat->Int)(C:Int->Nat->Int)(Z:Nat->Int)(Q:AV->Prop):(kb [] [(4001,13,Pd n b C 0,Pe n Z)] 174 [.ab n 1 (ae a),.ab n 1 (ae b),.fn 61 [] []] Q)=(B (a_ (0<=if M n>M n then M n else M n)&&a_ ((if M n>M n then M n else M n)<=if M n>M n then M n else M n)&&xF (8*if M n>M n then M n else M n) 281474976710656&&xF (if M n>M n then M n else M n) 9223372036854775807) (B (a_ ((0+if n<=z (if M n>M n then M n else M n)then n else z (if M n>M n then M n else M n))<=z (if M n>M n then M n else M n))) (aE PP II false (aD II 174 4001) 13 (Pd n b C 0) (Pe n Z)/\ax (z (if M n>M n then M n else M n)) n (an (z (if M n>M n then M n else M n)) (λi=>bif x_ 0 i&&y_ i (0+if n<=z (if M n>M n then M n else M n)then n else z (if M n>M n then M n else M n))then ae a (i-0)else [AV.int g_ 0]) (ae (C 0))/\ax (z (if M n>M n then M n else M n)) n (ax (z (if M n>M n then M n else M n)) n (zyI (M n) (zyN n (zyR n (ae b) (zyN n (zyR n (ae b) (B ((f_ (List.range.loop n []) λi=>true)&&a_ (0+n<=n)) (Q (AV.ab n 1 λi=>ae Z (0+i)))))))))))))):=U
def Rq(n:Nat)(a:Nat->Int)(C:Int->Nat->Int)(Z:Nat->Int)(Q:AV->Prop):(kb [] [(4001,13,Pd n a C 0,Pe n Z)] 174 [.aw,.ab n 1 (ae a),.fn 61 [] []] Q)=(B (a_ (0<=if M n>0 then M n else 0)&&a_ ((if M n>0 then M n else 0)<=if M n>0 then M n else 0)&&xF (8*if M n>0 then M n else 0) 281474976710656&&xF (if M n>0 then M n else 0) 9223372036854775807) (B (a_ ((0+if 0<=z (if M n>0 then M n else 0)then 0 else z (if M n>0 then M n else 0))<=z (if M n>0 then M n else 0))) (aE PP II false (aD II 174 4001) 13 (Pd n a C 0) (Pe n Z)/\ax (z (if M n>0 then M n else 0)) n (an (z (if M n>0 then M n else 0)) (λi=>bif x_ 0 i&&y_ i (0+if 0<=z (if M n>0 then M n else 0)then 0 else z (if M n>0 then M n else 0))then []else [AV.int g_ 0]) (ae (C 0))/\ax (z (if M n>0 then M n else 0)) n (ax (z (if M n>0 then M n else 0)) n (zyI (M n) (zyN n (zyR n (ae a) (zyN n (zyR n (ae a) (B ((f_ (List.range.loop n []) λi=>true)&&a_ (0+n<=n)) (Q (AV.ab n 1 λi=>ae Z (0+i)))))))))))))):=U
end
end Go.Sx
