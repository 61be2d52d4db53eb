/- The proof of a statement of the seat, part 43. -/
import Derived.Test.YtoijalagmmgkbaaGreatDoorX42
import Derived.OpenShut
import Derived.ReadAgain
import Derived.ChangeStays
import Derived.ChangeSame
import Derived.Deep.Slices
import Derived.Test.YtoijalagmmgkbaaGreatDoorX07
import Derived.Test.YtoijalagmmgkbaaGreatDoorX05
import Derived.Test.YtoijalagmmgkbaaGreatDoorX03
import Derived.WideKeyElems2
import Derived.LaidMore
import Derived.WideShapes
set_option linter.all false
set_option linter.defProp false
set_option maxRecDepth 1000000
namespace Go.Sx
open Go
open Int renaming ofNat->B,toNat->c_
open Go.IntKind renaming i64->z
open AV renaming int->a_,bool->y_,str->F_
open Decidable renaming decide->b_
open Option renaming some->d_,isSome_none->z_,none->B_
open List renaming getElem?_cons_zero->e_,take_append_drop->f_,getElem?_drop->g_,map_cons->h_,getElem?_take_of_lt->i_,length_take->j_,range->k_,mem_cons_of_mem->m_,take_succ_cons->n_,mem_cons_self->o_,map_nil->p_,not_mem_nil->q_,drop_zero->r_,take_zero->s_,mem_cons->t_,mem_append_right->w_,getElem?_eq_none->x_,mem_append_left->A_,append_assoc->D_,drop_drop->E_,all->I_
open Nat renaming le_trans->l_,add_assoc->u_,succ_mul->v_,add_sub_cancel->C_,sub_zero->G_,zero_add->H_,ble->K_
noncomputable section
def XN(n:Nat)(X:Nat->Nat->Int)(m:Nat)(C:Nat->Nat->Int)(agg g top u low D K:Int)(q:Query)(k:Nat)(F:Nat->ay)(a:Nat)(R:Nat)(S:Nat->Nat->Int)(T:Nat->Nat->List UInt8)(e:Nat->(Nat->ay)->Nat)(f:Nat->(Nat->ay)->Nat->Nat->Int)(r:Nat->(Nat->ay)->Nat->Nat->List UInt8)(Q:AV->Prop):(jE [S7,OE q,Hz k F,YB 68 R S T e f r,Wu] (mG PP II [(17004,68,YC (gW q 0) k F q.ng (e k F) (f k F) (r k F) K R S T 0,YD (gW q 0) k F q.ng (e k F) (f k F) (r k F) K),(25014,68,YH (gW q 0) k F q.ng (e k F) (f k F) (r k F) K 0,YJ (gW q 0) k F q.ng (e k F) (f k F) (r k F) K a),(32004,100,YO q.ng (e k F) (f k F) (r k F) (e a F) (f a F) (r a F) (e (k-a) λj=>F (a+j)) (f (k-a) λj=>F (a+j)) (r (k-a) λj=>F (a+j)) 0,YP)]) 1000 7 [.agg [.int z agg,.az m 3 (au C),.int z g,.int z top],.az n 6 (fm X),.int z u,.int z low,.int z D,.int z K] Hm (λa H=>aa (K_ 14 H.n) (Q a)) (λ_ _=>False))=(let E:=(av u (B (0+k)));let c:=(F (E.toNat-0));let V:=(aa (RE e f r q.nw (au q.C) q.ng (aR q.G) q.a q.fl q.nu q.de 0 (c_ (B a-0)) λi=>aF (F (0+i))) (aa (b_ (0<=B a)&&b_ (B a<=B k)&&b_ (B k<=B k)) (aa (RE e f r q.nw (au q.C) q.ng (aR q.G) q.a q.fl q.nu q.de 0 (c_ (B k-B a)) λi=>aF (F (c_ (B a)+i))) (Zu PP II false (aD II 7 32004) 100 (YO q.ng (e k F) (f k F) (r k F) (e a F) (f a F) (r a F) (e (k-a) λj=>F (a+j)) (f (k-a) λj=>F (a+j)) (r (k-a) λj=>F (a+j)) 0) YP/\ax (e (c_ (B k-B a)) (bP λi=>aF (F (c_ (B a)+i)))) (e (k-a) λj=>F (a+j)) (an (e (c_ (B k-B a)) (bP λi=>aF (F (c_ (B a)+i)))) (aX q.ng (f (c_ (B k-B a)) (bP λi=>aF (F (c_ (B a)+i)))) (r (c_ (B k-B a)) (bP λi=>aF (F (c_ (B a)+i))))) (aX q.ng (f (k-a) λj=>F (a+j)) (r (k-a) λj=>F (a+j)))/\ax (e (c_ (B a-0)) (bP λi=>aF (F (0+i)))) (e a F) (an (e (c_ (B a-0)) (bP λi=>aF (F (0+i)))) (aX q.ng (f (c_ (B a-0)) (bP λi=>aF (F (0+i)))) (r (c_ (B a-0)) (bP λi=>aF (F (0+i))))) (aX q.ng (f a F) (r a F))/\true=true/\zyN (e k F) (zyR (e k F) (aX q.ng (f k F) (r k F)) (Q (y_ true)))))))));let J:=(ay.h c-bif b_ (E.toNat=E.toNat)then ay.l c+av low (ay.h c-ay.l c+1)else ay.l c);let I:=(b_ (0<=av u (B (0+k)))&&b_ (av u (B (0+k))<B (0+k)));let y:=(b_ (E.toNat<0+k));let W:=(Zv.cells [F_ [48],F_ [49]] Access.ro);let L:=(e k (bP λi=>aF (F i)));let Y:=(aX q.ng (f k (bP λi=>aF (F i))) (r k (bP λi=>aF (F i))));let M:=(YJ (gW q 0) k F q.ng (e k F) (f k F) (r k F) K (B a));let N:=(b_ (0<=B a)&&b_ (B a<=B k));let O:=(YH (gW q 0) k F q.ng (e k F) (f k F) (r k F) K 0);let P:=(an k (λi=>aF (F i)) λj=>aF (F j));(aa (FY (Zv.cells [AV.az 5 2 aA] Access.ro) W (Zv.cells [a_ z 7,a_ z 9,a_ z 11,a_ z 99] Access.ro) (Zv.cells [AV.map (d_ 13)] Access.ro) (Zv.cells [a_ .u64 1,a_ .u64 10,a_ .u64 100,a_ .u64 1000,a_ .u64 10000,a_ .u64 100000,a_ .u64 1000000,a_ .u64 10000000,a_ .u64 100000000,a_ .u64 1000000000,a_ .u64 10000000000,a_ .u64 100000000000,a_ .u64 1000000000000,a_ .u64 10000000000000,a_ .u64 100000000000000,a_ .u64 1000000000000000,a_ .u64 10000000000000000,a_ .u64 100000000000000000,a_ .u64 1000000000000000000,a_ .u64 10000000000000000000] (Access.ex 20)) W (Zv.cells [F_ [49],F_ [49]] Access.ro) (Zv.map lS)) (aa (aI 3 m (au C)&&aN z agg&&aN z g&&aN z top&&tC q agg m (au C) g top) (aa (aI 6 n (fm X)&&zp k F n (fm X)) (aa (RE e f r q.nw (au q.C) q.ng (aR q.G) q.a q.fl q.nu q.de 0 k λi=>aF (F i)) (ah (b_ (B k>0)) (aa (b_ ((0+k)*80<=140737488355328)&&true) (ah (b_ (k=0)) False (aa (b_ (0<B (0+k))&&aN z u) (aa I (aa y (aa I (aa y (aa I (aa y (aa (aN z (ay.h c-ay.l c)) (aa (aN z (ay.h c-ay.l c+1)) (aa (b_ (0<ay.h c-ay.l c+1)&&aN z low) (aa y (aa (b_ (ay.l c=ay.l c)) (aa (aN z (ay.l c+av low (ay.h c-ay.l c+1))) (aa I (aa y (aa I (aa y (aa I (aa y (aa I (aa y (aa (aN z J) (aa (aN z (J+1)) (aa (b_ (0<J+1)&&aN z D) (aa y (aa (b_ (ay.h c=ay.h c)) (aa (aN z (ay.h c-av D (J+1))) (aa I (aa y (aa ((I_ (k_ (0+k)) λi=>bt.free [a_ z (ay.t (F (i-0))),a_ z (ay.s (F (i-0))),a_ z (ay.v (F (i-0))),a_ z (ay.w (F (i-0))),a_ z (ay.o (F (i-0))),a_ z (ay.p (F (i-0))),a_ z (ay.d (F (i-0))),a_ z (bif b_ (i=E.toNat)then ay.l c+av low (ay.h c-ay.l c+1)else ay.l (F (i-0))),a_ z (bif b_ (i=E.toNat)then ay.h c-av D (J+1)else ay.h (F (i-0))),a_ z (ay.b (F (i-0)))])&&b_ (0+k<=0+k)) (aa (RC (λx=>R) (λx=>S) (λx=>T) q.nw (au q.C) q.ng (aR q.G) q.a q.fl q.nu q.de 0 (0+k) λi=>[a_ z (ay.t (F (i-0))),a_ z (ay.s (F (i-0))),a_ z (ay.v (F (i-0))),a_ z (ay.w (F (i-0))),a_ z (ay.o (F (i-0))),a_ z (ay.p (F (i-0))),a_ z (ay.d (F (i-0))),a_ z (bif b_ (i=E.toNat)then ay.l c+av low (ay.h c-ay.l c+1)else ay.l (F (i-0))),a_ z (bif b_ (i=E.toNat)then ay.h c-av D (J+1)else ay.h (F (i-0))),a_ z (ay.b (F (i-0)))]) (Zu PP II false (aD II 7 17004) 68 (YC (gW q 0) k F q.ng (e k F) (f k F) (r k F) K R S T 0) (YD (gW q 0) k F q.ng (e k F) (f k F) (r k F) K)/\zyN q.nw (zyR q.nw (au q.C) (zyN q.ng (zyR q.ng (aR q.G) (zyI q.a (zyI q.fl (zyB q.nu (zyB q.de (zyB [48] (zyB [49] (zyR 5 aA (zyN k (P/\zyI K (true=true/\ax L (e k F) (an L Y (aX q.ng (f k F) (r k F))/\zyN R (zyR R (aX q.ng S T) (ah (b_ (q.a>2)) (Q (y_ true)) (Zu PP II false (aD II 7 25014) 68 O M/\zyN q.nw (zyR q.nw (au q.C) (zyN q.ng (zyR q.ng (aR q.G) (zyI q.a (zyI q.fl (zyB q.nu (zyB q.de (zyB [48] (zyB [49] (zyR 5 aA (zyN k ((an k (λj=>aF (F j)) λj=>aF (F j))/\zyI K (true=true/\zyN (e k F) (zyR (e k F) (aX q.ng (f k F) (r k F)) (aa N V)))))))))))))))))))))))))))))))))))))))))))))))))))))))))))))))))) (ah (b_ (q.a>2)) (Q (y_ true)) (Zu PP II false (aD II 7 25014) 68 O M/\zyN q.nw (zyR q.nw (au q.C) (zyN q.ng (zyR q.ng (aR q.G) (zyI q.a (zyI q.fl (zyB q.nu (zyB q.de (zyB [48] (zyB [49] (zyR 5 aA (zyN k (P/\zyI K (true=true/\ax L (e k F) (an L Y (aX q.ng (f k F) (r k F))/\aa N V)))))))))))))))))))))):=U
def zO(x:ay)(low:Int):Int:=x.l+av low (x.h-x.l+1)
def NB(x:ay)(low a:Int):Int:=x.h-av a (x.h-zO x low+1)
def Zm{x:ay}(h:bB x=true)(low a:Int):x.l<=zO x low/\zO x low<=NB x low a/\NB x low a<=x.h:=by
 have v:=(jx h).1
 have b:=cj (c:=low) (n:=x.h-x.l+1) O
 have d:x.l<=zO x low/\zO x low<=x.h:=by unfold zO;omega
 have e:=cj (c:=a) (n:=x.h-zO x low+1) O
 unfold NB
 omega
def S1{q:Query}(b:ct (gW q 0)=true){k:Nat}{F:Nat->ay}(c:cX k F=true):RC (λ_=>r8 (gW q 0) k F) (λ_=>FM (gW q 0) k F) (λ_=>oU (gW q 0) k F) q.nw (au q.C) q.ng (aR q.G) q.a q.fl q.nu q.de 0 k (λi=>aF (F i))=true :=
 VW (t:=0) (OQ.self q) b c A A A
def JR{q:Query}(b:ct (gW q 0)=true){k:Nat}{F:Nat->ay}(c:cX k F=true):RE (r8 (gW q 0)) (FM (gW q 0)) (oU (gW q 0)) q.nw (au q.C) q.ng (aR q.G) q.a q.fl q.nu q.de 0 k (λi=>aF (F i))=true :=
 SF.2 (HA.1 (S1 b c))
def XO(F:Nat->ay)(s:Nat)(x y:Int):(λi=>[a_ z (F (i-0)).t,a_ z (F (i-0)).s,a_ z (F (i-0)).v,a_ z (F (i-0)).w,a_ z (F (i-0)).o,a_ z (F (i-0)).p,a_ z (F (i-0)).d,a_ z (bif b_ (i=s)then x else(F (i-0)).l),a_ z (bif b_ (i=s)then y else(F (i-0)).h),a_ z (F (i-0)).b])=λi=>aF (zU F s x y i):=by
 funext i
 rw[G_]
 unfold zU
 by_cases e:i=s
 ·rw[bW e,if_pos e,e];rfl
 ·rw[nZ e,if_neg e];rfl
def Wz{q:Query}{k:Nat}{F:Nat->ay}(x:ct q=true)(f:Good k F)(hk:k<=24)(n:Nat)(X:Nat->Nat->Int)(m:Nat)(C:Nat->Nat->Int)(agg g top d low b e:Int)
  (R:aI 3 m (au C)=true) (ha:aN z agg=true) (y:aN z g=true) (ht:aN z top=true) (hX:aI 6 n (fm X)=true) (S:aN z d=true) (T:aN z low=true) (U:aN z b=true) (V:aN z e=true)
  (W:cJ agg (min m 3) (bG (au C)) g top=q) (Y:mZ n (bG (fm X))=k) (Z:oW n (bG (fm X))=F) (s:Nat) (es:s=(av d (B k)).toNat):
  jE [S7,OE q,Hz k F,YB 68 (r8 (gW q 0) k (zU F s (zO (F s) low) (NB (F s) low b))) (FM (gW q 0) k (zU F s (zO (F s) low) (NB (F s) low b))) (oU (gW q 0) k (zU F s (zO (F s) low) (NB (F s) low b))) (r8 (gW q 0)) (FM (gW q 0)) (oU (gW q 0)),Wu] (mG PP II [(17004,68,YC (gW q 0) k F q.ng (r8 (gW q 0) k F) (FM (gW q 0) k F) (oU (gW q 0) k F) e (r8 (gW q 0) k (zU F s (zO (F s) low) (NB (F s) low b))) (FM (gW q 0) k (zU F s (zO (F s) low) (NB (F s) low b))) (oU (gW q 0) k (zU F s (zO (F s) low) (NB (F s) low b))) 0,YD (gW q 0) k F q.ng (r8 (gW q 0) k F) (FM (gW q 0) k F) (oU (gW q 0) k F) e),(25014,68,YH (gW q 0) k F q.ng (r8 (gW q 0) k F) (FM (gW q 0) k F) (oU (gW q 0) k F) e 0,YJ (gW q 0) k F q.ng (r8 (gW q 0) k F) (FM (gW q 0) k F) (oU (gW q 0) k F) e (ru F (av e 40) k:Nat)),(32004,100,YO q.ng (r8 (gW q 0) k F) (FM (gW q 0) k F) (oU (gW q 0) k F) (r8 (gW q 0) (ru F (av e 40) k) F) (FM (gW q 0) (ru F (av e 40) k) F) (oU (gW q 0) (ru F (av e 40) k) F) (r8 (gW q 0) (k-ru F (av e 40) k) λj=>F (ru F (av e 40) k+j)) (FM (gW q 0) (k-ru F (av e 40) k) λj=>F (ru F (av e 40) k+j)) (oU (gW q 0) (k-ru F (av e 40) k) λj=>F (ru F (av e 40) k+j)) 0,YP)]) 1000 7 [.agg [.int z agg,.az m 3 (au C),.int z g,.int z top],.az n 6 (fm X),.int z d,.int z low,.int z b,.int z e] Hm (λa H=>aa (K_ 14 H.n) (a= .bool true)) (λ_ _=>False):=by
 have p:ct (gW q 0)=true:=VV x
 have L:=(mY x).2.2
 have h3:=Xs x
 have hv:=f.UI (O:k<=400)
 have D:=Pb F (av e 40) k
 have t:=XI (q:=gW q 0) (F:=F) (g:=q.ng) (pn:=r8 (gW q 0) k F) (KP:=FM (gW q 0) k F) (SP:=oU (gW q 0) k F) (O:k<=1000) e V
 have o:q.a=1∨q.a=2->_:=λh=>XM p A f (O:k<=400) D h
 generalize ru F (av e 40) k=a at D t o⊢
 have t:Zu PP II false (aD II 7 25014) 68 (YH (gW q 0) k F q.ng (r8 (gW q 0) k F) (FM (gW q 0) k F) (oU (gW q 0) k F) e 0) (YJ (gW q 0) k F q.ng (r8 (gW q 0) k F) (FM (gW q 0) k F) (oU (gW q 0) k F) e (B a)):=t
 have r0:=JR p hv
 have r1:=JR p ((VM f D).UI (O:a<=400))
 have r2:=JR p ((SG (a:=a) f).UI (O:k-a<=400))
 have M :¬ q.a>2->Zu PP II false (aD II 7 32004) 100 (YO q.ng (r8 (gW q 0) k F) (FM (gW q 0) k F) (oU (gW q 0) k F) (r8 (gW q 0) a F) (FM (gW q 0) a F) (oU (gW q 0) a F) (r8 (gW q 0) (k-a) λj=>F (a+j)) (FM (gW q 0) (k-a) λj=>F (a+j)) (oU (gW q 0) (k-a) λj=>F (a+j)) 0) YP:=λh=>by
  have E:q.a=1∨q.a=2:=by
   unfold eU EV at L
   simp only[bf,Bool.or_eq_true,bn]at L
   omega
  refine XJ O ?_ ?_ ?_ (o E)
  ·exact l_ (RM _ _ _) O
  ·exact l_ (RM _ _ _) O
  ·exact l_ (RM _ _ _) O
 have G:B k=(k:Int):=rfl
 have I:B a=(a:Int):=rfl
 have N:(b_ ((0:Int)<=B a)&&b_ (B a<=B k))=true:=by rw[I,G];simp only[bf,bn];omega
 have c2:(b_ ((0:Int)<=B a)&&b_ (B a<=B k)&&b_ (B k<=B k))=true:=by rw[N,bW (Int.le_refl (B k))];rfl
 have u:y_ true=y_ true:=rfl
 rw[XN]
 dsimp only
 rw[H_,show c_ (B a-0)=a by omega,show c_ (B k-B a)=k-a by omega,show c_ (B a)=a from rfl,show(λi=>aF (F (0+i)))=λi=>aF (F i)from funext λi=>by rw[H_],show(bP λi=>aF (F i))=F from rfl,show(bP λi=>aF (F (a+i)))=λj=>F (a+j)from rfl,c2,N,r0,r1,r2]
 refine cC _ _ (Bl A A A A A A A A) (cC _ _ (by rw[R,ha,y,ht,J3 W];rfl) (cC _ _ (by rw[hX,OG Y Z];rfl) (cC _ _ A (Zg (λab=>?_) λ_=>?_))))
 ·have hs:=cj (c:=d) (n:=B k) O
  have ps:av d (B k)=(s:Int):=O
  have w:s<k:=O
  obtain⟨n1,P,Q⟩:=Zm (f.val s w) low b
  have v:=(jx (f.val s w)).1
  have la:Zu PP II false (aD II 7 17004) 68 (YC (gW q 0) k F q.ng (r8 (gW q 0) k F) (FM (gW q 0) k F) (oU (gW q 0) k F) e (r8 (gW q 0) k (zU F s (zO (F s) low) (NB (F s) low b))) (FM (gW q 0) k (zU F s (zO (F s) low) (NB (F s) low b))) (oU (gW q 0) k (zU F s (zO (F s) low) (NB (F s) low b))) 0) (YD (gW q 0) k F q.ng (r8 (gW q 0) k F) (FM (gW q 0) k F) (oU (gW q 0) k F) e):=
   XF (Zd p A f O w n1 P Q) (O:q.ng<=1000000) (l_ (RM _ _ _) O) (l_ (RM _ _ _) O) e
  have r3:=S1 p ((RF f w n1 P Q).UI (O:k<=400))
  have pk:(b_ ((0:Int)<=(s:Int))&&b_ ((s:Int)<B k))=true:=by simp only[bf,bn];omega
  have J:b_ (s<k)=true:=bW w
  have q1:(b_ (k*80<=140737488355328)&&true)=true:=by rw[bW (O:k*80<=140737488355328)];rfl
  have q2:(b_ (0<B k)&&aN z d)=true:=by rw[bW (O:0<B k),S];rfl
  rw[q1,q2,ps,show c_ (s:Int)=s from rfl,G_,pk,J,bW (rfl:s=s),cond_true]
  rw[show(F s).l+av low ((F s).h-(F s).l+1)=zO (F s) low from rfl,show(F s).h-av b ((F s).h-zO (F s) low+1)=NB (F s) low b from rfl,XO,r3]
  have b1:aN z ((F s).h-(F s).l)=true:=aq O O
  have b2:aN z ((F s).h-(F s).l+1)=true:=aq O O
  have b3:(b_ (0<(F s).h-(F s).l+1)&&aN z low)=true:=by rw[bW (O:0<(F s).h-(F s).l+1),T];rfl
  have b4:aN z (zO (F s) low)=true:=aq O O
  have b5:aN z ((F s).h-zO (F s) low)=true:=aq O O
  have b6:aN z ((F s).h-zO (F s) low+1)=true:=aq O O
  have b7:(b_ (0<(F s).h-zO (F s) low+1)&&aN z b)=true:=by rw[bW (O:0<(F s).h-zO (F s) low+1),U];rfl
  have b8:aN z (NB (F s) low b)=true:=aq O O
  have d1:b_ ((F s).l=(F s).l)=true:=bW A
  have d2:b_ ((F s).h=(F s).h)=true:=bW A
  have f1:∀r:Nat->List AV,(∀i,bt.free (r i)=true)->(I_ (k_ k) (λi=>bt.free (r i))&&b_ (k<=k))=true:=λr hr=>by
   rw[bW (dw k),Bool.and_true]
   exact List.all_eq_true.2 λi _=>hr i
  have k0 :¬ k=0:=O
  rw[b1,b2,b3,b4,b5,b6,b7,b8,d1,d2]
  have fk:an k (λj=>aF (F j)) λj=>aF (F j):=λ_ _ σ=>cL σ _
  repeat' (first|with_reducible exact trivial|with_reducible exact la|with_reducible exact t|exact f1 _ λ_=>rfl|with_reducible rfl|with_reducible exact fk|with_reducible exact eP _ _ _ _|with_reducible exact bC _ _|with_reducible exact bO _ _|with_reducible exact aZ|with_reducible refine YG ?_ ?_|with_reducible refine Zf ?_ ?_|with_reducible refine Zi ?_ ?_|with_reducible refine Ze ?_ ?_|with_reducible refine And.intro ?_ ?_|with_reducible refine Zg (λhz=>absurd hz k0) λ_=>?_|with_reducible refine Zg (λ_=>u) λK=>?_|with_reducible exact M K)
 ·have fk:an k (λj=>aF (F j)) λj=>aF (F j):=λ_ _ σ=>cL σ _
  repeat' (with_reducible first|exact trivial|exact t|rfl|exact fk|exact eP _ _ _ _|exact bC _ _|exact bO _ _|exact aZ|refine YG ?_ ?_|refine Zf ?_ ?_|refine Zi ?_ ?_|refine Ze ?_ ?_|refine And.intro ?_ ?_|refine Zg (λ_=>u) λK=>?_|exact M K)
def XP{n:Nat}{X:Nat->Nat->Int}{m:Nat}{C:Nat->Nat->Int}{agg g top b low c d:Int}(f:aI 3 m (au C)=true)(ha:aN z agg=true)(i:aN z g=true)(ht:aN z top=true)(hX:aI 6 n (fm X)=true)(j:aN z b=true)(k:aN z low=true)(p:aN z c=true)(r:aN z d=true):
  af PP II 7 [.agg [.int z agg,.az m 3 (au C),.int z g,.int z top],.az n 6 (fm X),.int z b,.int z low,.int z c,.int z d] Hm (.ret (.bool true) (AH.blank 14)):=by
 have h:=Wz (q:=cJ agg (min m 3) (bG (au C)) g top) (by unfold ct;rw[J8,J9,OP];rfl) (zd (bG (fm X)) _) (Ra n _) n X m C agg g top b low c d f ha i ht hX j k p r A A A _ A
 obtain⟨o,e,s⟩:=fJ iw _ (bm PP II _) 1000 7 _ Hm _ _ h
 cases o with
 |ret a H1=>
  obtain⟨t,k1⟩:=Zk e
  have k1:a= .bool true:=k1
  subst k1
  exact s.le (ky.of [] (im.of A A A A t (gS.2 λl _=>trivial)) A)
 |qt a H1=>exact e.elim
section
open Go.ChangeShapes Go.WideShapes Go.Deep
section
variable {H:Type} {enc:TypeId×Value->H} {P:Program} {W:World} {sp:Nat->Bool} {held:Bool}
def kU(W a:World):Prop:=a.os=W.os/\a.output=W.output/\∀i,i<W.heap.size->a.heap[i]? =W.heap[i]?
theorem kU.same{a:World}(h:kU W a){p:MemPlace}(c:p.block<W.heap.size):W.sameAt a p:=by
 cases p with
 |cell b off=>show a.cell? _=W.cell? _;unfold World.cell?;rw[h.2.2 b c]
 |map b=>exact h.2.2 b c
theorem kU.frozen{a:World}(h:kU W a){b off:Nat}(c:b<W.heap.size):a.frozen? ⟨b,off,B_⟩=W.frozen? ⟨b,off,B_⟩:=by
 unfold World.frozen?
 rw[h.2.2 b c]
end
end
section
open Go.ChangeShapes Go.WideShapes Go.Deep
def RP(m:Nat)(X:Nat->Nat->Int)(j:Nat):List AV:=(k_ m).map λk=> .int z (X j k)
def xB(ρ:Env)(W:World):Prop := ∀b cs el fr,W.heap[b]? =d_ (.cells cs el fr)->ρ.fz b=d_ cs.toList
section
variable {H:Type} {enc:TypeId×Value->H} {P:Program} {W:World} {sp:Nat->Bool} {held:Bool}
theorem xC{a:Int}(h:(Lit.int z a).wf=true):aN z a=true:=by
 unfold aN
 rw[Km,Km]
 exact h
theorem zx{ρ:Env}:∀{m:Nat}{us:List Value}{x:Nat->Int},us.length=m->(∀k,k<m->us[k]? =d_ (.int z (x k)))->aU ρ ((k_ m).map λk=> .int z (x k)) us
 |0,us,x,hl,_=>by
  have:us=[]:=List.length_eq_zero_iff.1 hl
  subst this;exact A
 |m+1,us,x,hl,h=>by
  match us,hl,h with
  |u::us,hl,h=>
   have a:=h 0 O
   simp only[e_,fE]at a
   rw[List.range_succ_eq_map,h_,List.map_map]
   refine⟨u,us,rfl,a,zx (m:=m) (x:=λk=>x (k+1)) (by simpa using hl) λk b=>?_⟩
   have:=h (k+1) O
   simpa using this
theorem zy{ρ:Env}(J:xB ρ W){t e i m:Nat}{fuel:Nat}{v:Value}{x:DataW H×List MemPlace}(ht:P.underlying t=d_ (.slice e))(V:P.underlying e=d_ (.array m i))(hi:P.underlying i=d_ (.int z))(Y:P.cellsOf i=1)(Z:P.cellsOf e=m)(hm:0<m)
  (h:DataW.trod enc P W 0 sp held fuel t [v]=d_ x):∃(n:Nat)(X:Nat->Nat->Int),VR ρ (.az n m (RP m X)) v/\∀j,j<n->∀k,k<m->aN z (X j k)=true:=by
 rcases open_slice ht h with⟨h0,_⟩|⟨a,len,cap,mm,nn,D,Pl,hv,_,hl,_,K,_,hx⟩
 ·cases h0
  refine⟨0,λ_ _=>0,?_,λj f=>absurd f (lZ _)⟩
  simp[VR]
 ·cases hv
  have ab:len<=mm:=by rw[K];split<;>omega
  rw[Z]at hx
  by_cases E:len=0
  ·subst E
   refine⟨0,λ_ _=>0,?_,λj f=>absurd f (lZ _)⟩
   simp only[VR]
   exact .inr ⟨0,0,cap,a,λ_=>[],rfl,hl,λh=>absurd h (HD _)⟩
  ·have cells:∀j k,j<len->k<m->∃d,W.cell? (a.add (j*m+k))=d_ (.int z d)/\aN z d=true:=by
    intro j k f g
    obtain⟨L,G,M⟩:=hx j O
    obtain⟨_,o,hc⟩:=World.cells?_some G
    obtain⟨xs,m',_,_,_,_,N⟩:=DataW.trod_array V M
    have r:=N k g
    rw[Y,Nat.mul_one]at r
    have Q:k<xs.length:=O
    rw[mo Q]at r
    obtain⟨d,R,_,S⟩:=DataW.trod_int hi r
    have T:L[k]? =d_ (.int z d):=by
     have:=congrArg (·[0]?) R
     simpa [List.getElem?_take,g_]using this
    refine⟨d,?_,xC S⟩
    rw[<-add_add,hc k g];exact T
   let X:Nat->Nat->Int:=λj k=>match W.cell? (a.add (j*m+k))with|some (.int z d)=>d|_=>0
   have hX:∀j k,j<len->k<m->W.cell? (a.add (j*m+k))=d_ (.int z (X j k))/\aN z (X j k)=true:=by
    intro j k f g
    obtain⟨d,G,M⟩:=cells j k f g
    have:X j k=d:=by simp only[X];rw[G]
    rw[this];exact⟨G,M⟩
   have p:=(hX 0 0 O hm).1
   have ea:a.add (0*m+0)=a:=by simp[Addr.add]
   rw[ea]at p
   obtain⟨b,off,q⟩:=a
   have w:q=B_/\∃cs el fr,W.heap[b]? =d_ (.cells cs el fr):=by
    unfold World.cell? at p
    split at p
    ·rename_i c el fr I
     cases q with
     |none=>exact⟨rfl,c,el,fr,I⟩
     |some s=>simp at p
    ·cases p
   obtain⟨rfl,cs,el,fr,I⟩:=w
   have y:∀j k,j<len->k<m->cs.toList[off+(j*m+k)]? =d_ (.int z (X j k)):=by
    intro j k f g
    have:=(hX j k f g).1
    have e1:(Addr.mk b off B_).add (j*m+k)=⟨b,off+(j*m+k),B_⟩:=by
     unfold Addr.add
     by_cases E:j*m+k=0
     ·rw[if_pos E,E];rfl
     ·rw[if_neg E]
    rw[e1]at this
    simp only[World.cell?,I,z_,kH,if_false]at this
    simpa using this
   have C:off+len*m<=cs.toList.length:=by
    have:=(List.getElem?_eq_some_iff.1 (y (len-1) (m-1) O O)).1
    have e2:(len-1)*m+m=len*m:=by
     obtain⟨l,rfl⟩:∃l,len=l+1:=⟨len-1,O⟩
     rw[C_,v_]
    omega
   refine⟨len,X,?_,λj f k g=>(hX j k f g).2⟩
   simp only[VR]
   refine .inr ⟨b,off,cap,⟨b,off,B_⟩,λj=>(cs.toList.drop (off+j*m)).take m,rfl,hl,λ_=>⟨rfl,⟨?_,cs.toList.take off,cs.toList.drop (off+len*m),by rw[j_];omega,?_⟩,λj f=>?_⟩⟩
   ·intro u U
    obtain⟨j,f,U⟩:=List.mem_flatMap.1 U
    have f:=List.mem_range.1 f
    obtain⟨k,g⟩:=List.mem_iff_getElem?.1 U
    have F:k<m:=by
     have:=(List.getElem?_eq_some_iff.1 g).1
     simp at this;omega
    rw[i_ F,g_,u_,y j k f F]at g
    cases g;rfl
   ·rw[J b cs el fr I,rq C,<-E_]
    rw[D_,f_,f_]
   ·have o:((cs.toList.drop (off+j*m)).take m).length=m:=by
     have:j*m+m<=len*m:=by
      have:=Nat.mul_le_mul_right m (show j+1<=len from f)
      rw[v_]at this;exact this
     simp only[j_,List.length_drop];omega
    refine⟨o,zx o λk g=>?_⟩
    rw[i_ g,g_,u_]
    exact y j k f g
theorem zz{d:World}{a:Nat->Bool}{T:TypeId->Prop}(K:Kids P T)(f:∀{t e:TypeId},T t->P.underlying t=d_ (.slice e)->0<P.cellsOf e):∀{c:List TypeId}{vs:List Value}{ds:List (DataW H)}{b:List MemPlace},(∀t∈c,T t)->
  DataW.TrodAll enc P W 0 (λ_=>true) true c vs ds b->(∀p∈b,W.sameAt d p)->(∀p∈b,a p.block=true)->DataW.TrodAll enc P d 0 a true c vs ds b
 |[],[],[],_,_,h,_,_=>h
 |_::_,_::_,_::_,_,g,⟨p,q,⟨n,h1⟩,k,e⟩,i,j=>⟨p,q,⟨n,DataW.trod_stays K f (λh=>zE) (g _ (List.mem_cons.2 (.inl A))) h1 (λx hx=>i x (by rw[e];exact A_ _ hx)) (λx hx=>j x (by rw[e];exact A_ _ hx))⟩,
   zz K f (λt ht=>g t (List.mem_cons.2 (.inr ht))) k (λx hx=>i x (by rw[e];exact w_ _ hx)) (λx hx=>j x (by rw[e];exact w_ _ hx)),e⟩
theorem kU.Y6{b:World}(h:kU W b)(a:MemPlace->Prop):W.keptBut b a:=by
 refine⟨h.1,h.2.1,λi hi=>?_⟩
 rw[h.2.2 i hi]
 cases hw:W.heap[i]? with
 |none=>trivial
 |some o=>cases o<;>first|exact⟨rfl,rfl,rfl,λ_ _=>rfl⟩|exact .inr ⟨rfl,rfl⟩|rfl
theorem Ka{l:World}{f:Func}{s:ChangeSpec}{apart fresh a h:Bool}{args:Array Value}{v:Value}{ds gs:List (DataW H)}{before:List MemPlace}{T:TypeId->Prop}(K:Kids P T)(G:∀{t e:TypeId},T t->P.underlying t=d_ (.slice e)->0<P.cellsOf e)(I:∀t∈f.params.toList,T t)
  (c:s.vars=[]) (u:DataW.Whole enc P f.params.toList s.vars apart W args.toList ds gs before) (w:kU W l)
  (g:∀(b:Nat)(sp:Nat->Bool)(J:Bool),DataW.TrodAll enc P l b sp J f.resultTypes.toList (v.resultList f.resultTypes.size) (s.fn H (ds++gs)).results [])
  (x:(s.fn H (ds++gs)).args=ds) (y:(s.fn H (ds++gs)).vars=gs)
  (C:∀(j:Nat)(t:TypeId)(r:Value),f.resultTypes[j]? =d_ t->(v.resultList f.resultTypes.size)[j]? =d_ r->Value.okWide P l .any 0 t r):
  s.post enc P f apart fresh a h W args v l:=by
 have i:=u.lt
 have D:=u
 obtain⟨N,O,hA,F,m,E,L⟩:=u
 rw[c]at F
 obtain⟨rfl,rfl⟩:=trodVars_none F
 rw[List.append_nil]at m
 subst m
 have d:∀sp:Nat->Bool,(∀p∈before,sp p.block=true)->DataW.TrodAll enc P l 0 sp true f.params.toList args.toList (s.fn H (ds++[])).args before:=λsp M=>by
  rw[x];exact zz K G I hA (λp k=>w.same (i p k)) M
 have n:∀sp:Nat->Bool,DataW.TrodVars enc P l sp s.vars (s.fn H (ds++[])).vars []:=λsp=>by rw[c,y];exact A
 have o:∀p∈before,(λb=>b_ (b<W.heap.size)) p.block=true:=λp k=>by simpa using i p k
 refine⟨ds,[],before,[],before,[],D,g _ _ _,d _ o,n _,w.Y6 _,λ_=>?_⟩
 refine⟨C,_,_,([]++before)++[],⟨[]++before,[],trodAll_append (d _ (λ_ _=>rfl)) (g _ _ _),n _,rfl,?_,?_⟩,?_⟩
 ·intro b off k
  have q:MemPlace.cell b off∈before:=by simpa using k
  rw[w.frozen (b:=b) (off:=off) (i _ q)]
  exact E b off q
 ·intro ha
  simpa using L ha
 ·intro p k _
  simpa using k
end
end
def HB{a:TypeDesc}{b:Value}:∀{l:List MapEntry}{j i:Nat}{v:Value},Instr.findNow a b l j=d_ (d_ (i,v))->∃x∈l,Instr.sameNow a b x.key=d_ true/\v=x.val
 |[],_,_,_,h=>by simp[Instr.findNow]at h
 |x::l,j,i,v,h=>by
  unfold Instr.findNow at h
  split at h
  ·rename_i c
   simp only[fE,Prod.mk.injEq]at h
   exact⟨x,o_,c,h.2.symm⟩
  ·obtain⟨y,d,e,f⟩:=HB h
   exact⟨y,m_ _ d,e,f⟩
  ·cases h
def RQ{b:TypeDesc}{c:Value}{n:Int}(h:Instr.sameNow b c (.int z n)=d_ true):∃q,b= .int q/\c= .int z n:=by
 cases b<;>cases c<;>simp[Instr.sameNow]at h
 rename_i q k a
 obtain⟨rfl,rfl⟩:=h
 exact⟨q,rfl,rfl⟩
def Gx{q:IntKind}{n:Int}{u:Value}:∀{l:List MapEntry}(_:∀x∈l,∃m,x.key= .int z m)(_:∀x∈l,x.key= .int z n->x.val=u)(j:Nat)(_:∃x∈l,x.key= .int z n),∃i,Instr.findNow (.int q) (.int z n) l j=d_ (d_ (i,u))
 |[],_,_,_,h=>by obtain⟨x,hx,_⟩:=h;cases hx
 |x::l,h1,d,j,f=>by
  obtain⟨m,b⟩:=h1 x o_
  unfold Instr.findNow
  by_cases e:n=m
  ·subst e
   rw[b]
   simp only[Instr.sameNow,if_true,beq_self_eq_true]
   exact⟨j,by rw[d x o_ b]⟩
  ·rw[b]
   have:(n==m)=false:=by simpa using e
   simp only[Instr.sameNow,if_true,this]
   refine Gx (λy a=>h1 y (m_ _ a)) (λy a=>d y (m_ _ a)) (j+1) ?_
   obtain⟨y,a,c⟩:=f
   rcases List.mem_cons.1 a with rfl|a
   ·rw[b]at c;cases c;exact absurd A e
   ·exact⟨y,a,c⟩
def Vf{b ms:List MapEntry}(a:∀x∈b,x∈ms)(f:∀x∈ms,∃n,x.key= .int z n)(j:∀x∈ms,∀y∈ms,x.key=y.key->x.val=y.val):so b ms:=by
 intro l m i v h
 obtain⟨x,c,g,rfl⟩:=HB h
 obtain⟨n,d⟩:=f x (a x c)
 rw[d]at g
 obtain⟨q,rfl,rfl⟩:=RQ g
 exact Gx f (λy k e=>j y k x (a x c) (by rw[e,d])) 0 ⟨x,a x c,d⟩
def OS{ms:List MapEntry}{V:Nat->Value}(d:∀x∈ms,∃i:Nat,i<5/\x.key= .int z ((i:Int)+1)/\x.val=V i)(b:∀i:Nat,i<5->∃x∈ms,x.key= .int z ((i:Int)+1)):
  ∃a:List MapEntry,a.map (·.key)=[.int z 1,.int z 2,.int z 3,.int z 4,.int z 5]/\a.map (·.val)=[V 0,V 1,V 2,V 3,V 4]/\so a ms:=by
 have val:∀i:Nat,i<5->∀x∈ms,x.key= .int z ((i:Int)+1)->x.val=V i:=λi hi x hx e=>by
  obtain⟨j,_,c,f⟩:=d x hx
  rw[c]at e
  have:(j:Int)+1=(i:Int)+1:=by injection e
  have:j=i:=O
  rw[f,this]
 obtain⟨g,q,h⟩:=b 0 O
 obtain⟨k,r,k1⟩:=b 1 O
 obtain⟨l,s,k2⟩:=b 2 O
 obtain⟨m,t,n⟩:=b 3 O
 obtain⟨o,u,p⟩:=b 4 O
 refine⟨[g,k,l,m,o],?_,?_,Vf (λx hx=>?_) (λx hx=>?_) λx hx y v e=>?_⟩
 ·simp only[h_,p_,h,k1,k2,n,p];rfl
 ·simp only[h_,p_,val 0 O g q h,val 1 O k r k1,val 2 O l s k2,val 3 O m t n,val 4 O o u p]
 ·simp only[t_,q_,or_false]at hx
  rcases hx with rfl|rfl|rfl|rfl|rfl<;>assumption
 ·obtain⟨i,_,c,_⟩:=d x hx
  exact⟨_,c⟩
 ·obtain⟨i,hi,c,f⟩:=d x hx
  rw[f,val i hi y v (by rw[<-e,c])]
section
open Go.WideShapes
def pN{P:Program}{k:TypeId}(a:P.underlying k=d_ (.int z)){v:Value}{n:Int}(h:keyOf P k v=d_ (.int z n)):v= .int z n:=by
 unfold keyOf at h
 rw[a]at h
 unfold mapKey at h
 rw[a]at h
 cases v<;>simp at h
 obtain⟨⟨rfl,_⟩,rfl⟩:=h
 rfl
def xD{P:Program}{W:World}{e:TypeId}{i:Field}{w rs:Array TypeId}{x:Bool}{n:Nat}{sp:Nat->Bool}{v:Value}{a:DataW (List UInt8)×List MemPlace}{b:UInt8}{r:List UInt8}{f:FuncId}
  (t:P.underlying e=d_ (.struct #[i])) (y:i.offset=0) (l:P.cellsOf e=1) (o:P.cellsOf i.type=1) (C:P.underlying i.type=d_ (.func w rs x))
  (j:((k_ P.funcs.size).filter λf=>(P.funcs[f]?).any (·.name.toUTF8.data.toList==b::r))=[f])
  (h:WideElems.elemAt (funcToken P) P W 0 sp true n e v=d_ a) (g:a.1= .agg [.held (b::r)]):v= .agg #[.func (.func f) #[] #[]]:=by
 unfold WideElems.elemAt at h
 split at h
 ·rename_i d
  obtain⟨D,m,_,hx,hl,p,q⟩:=DataW.trod_struct t h
  rw[hx]at g
  simp only[DataW.agg.injEq]at g
  match D,p,g with
  |[E],_,g=>
   simp only[h_,p_,List.cons.injEq,and_true]at g
   have k:=q 0 i A
   rw[y,o,r_]at k
   rw[l]at hl
   obtain⟨c,u⟩:∃c,v.cells.toList=[c]:=by
    match F:v.cells.toList,hl with
    |[c],_=>exact⟨c,rfl⟩
   rw[u]at k
   simp only[n_,s_,e_]at k
   obtain⟨G,H⟩:=E
   simp only at g
   subst g
   have s:=func_of_trod C j k
   subst s
   unfold Value.formed at d
   cases v with
   |agg cs=>
    have:cs= #[.func (.func f) #[] #[]]:=by
     apply Array.ext'
     exact u
    rw[this]
   |_=>simp[t]at d
 ·cases h
def Kb{P:Program}{W:World}{t k e:TypeId}{G:Field}{K rs:Array TypeId}{L:Bool}{fuel:Nat}{cs:List Value}{p:List MemPlace}{N:Nat->UInt8×List UInt8}{F:Nat->FuncId}
  (ht:P.underlying t=d_ (.map k e)) (r:P.underlying k=d_ (.int z)) (s:P.underlying e=d_ (.struct #[G])) (u:G.offset=0) (l:P.cellsOf e=1) (m:P.cellsOf G.type=1) (v:P.underlying G.type=d_ (.func K rs L))
  (c:∀i,i<5->((k_ P.funcs.size).filter λf=>(P.funcs[f]?).any (·.name.toUTF8.data.toList==(N i).1::(N i).2))=[F i])
  (h:DataW.trod (funcToken P) P W 0 (λ_=>true) true fuel t cs=d_ (.map [(.int z 1,.agg [.held ((N 0).1::(N 0).2)]),(.int z 2,.agg [.held ((N 1).1::(N 1).2)]),(.int z 3,.agg [.held ((N 2).1::(N 2).2)]),(.int z 4,.agg [.held ((N 3).1::(N 3).2)]),(.int z 5,.agg [.held ((N 4).1::(N 4).2)])],p)):
  ∃b ms j,cs=[.map (d_ b)]/\W.heap[b]? =d_ (.map ms j)/\(∀x∈ms.toList,∃i:Nat,i<5/\x.key= .int z ((i:Int)+1)/\x.val= .agg #[.func (.func (F i)) #[] #[]])/\∀i:Nat,i<5->∃x∈ms.toList,x.key= .int z ((i:Int)+1):=by
 rcases WideElems.open_map ht h with⟨_,hx⟩|⟨b,es,j,n,_,I,M,_,fit,hx⟩
 ·simp at hx
 ·simp only[Prod.mk.injEq,DataW.map.injEq]at hx
  obtain⟨hL,_⟩:=hx
  have perm:=sorted_perm (es.toList.map (WideElems.rg P k (WideElems.elemAt (funcToken P) P W 0 (λ_=>true) true n e)))
  rw[<-hL]at perm
  refine⟨b,es,j,I,M,λx hx=>?_,λi hi=>?_⟩
  ·obtain⟨y,w⟩:=fit.reads x hx
   have H:=perm.mem_iff.2 (List.mem_map.2 ⟨x,hx,WideElems.rg_of w⟩)
   obtain⟨a,C,o⟩:=WideElems.rd_val w
   have g:=WideElems.rd_key w
   simp only[t_,q_,or_false]at H
   rcases H with rfl|rfl|rfl|rfl|rfl
   ·exact⟨0,O,pN r g,xD s u l m v (c 0 O) C o.symm⟩
   ·exact⟨1,O,pN r g,xD s u l m v (c 1 O) C o.symm⟩
   ·exact⟨2,O,pN r g,xD s u l m v (c 2 O) C o.symm⟩
   ·exact⟨3,O,pN r g,xD s u l m v (c 3 O) C o.symm⟩
   ·exact⟨4,O,pN r g,xD s u l m v (c 4 O) C o.symm⟩
  ·have back:∀y∈[((.int z 1:Lit),(.agg [.held ((N 0).1::(N 0).2)]:DataW (List UInt8))),(.int z 2,.agg [.held ((N 1).1::(N 1).2)]),(.int z 3,.agg [.held ((N 2).1::(N 2).2)]),(.int z 4,.agg [.held ((N 3).1::(N 3).2)]),(.int z 5,.agg [.held ((N 4).1::(N 4).2)])],∃x∈es.toList,keyOf P k x.key=d_ y.1:=λy w=>by
    obtain⟨x,hx,D⟩:=List.mem_map.1 (perm.mem_iff.1 w)
    obtain⟨Q,E⟩:=fit.reads x hx
    rw[WideElems.rg_of E]at D
    subst D
    exact⟨x,hx,WideElems.rd_key E⟩
   have q:∀n d,((.int z n:Lit),(d:DataW (List UInt8)))∈[((.int z 1:Lit),(.agg [.held ((N 0).1::(N 0).2)]:DataW (List UInt8))),(.int z 2,.agg [.held ((N 1).1::(N 1).2)]),(.int z 3,.agg [.held ((N 2).1::(N 2).2)]),(.int z 4,.agg [.held ((N 3).1::(N 3).2)]),(.int z 5,.agg [.held ((N 4).1::(N 4).2)])]->∃x∈es.toList,x.key= .int z n:=λn d H=>by
    obtain⟨x,hx,J⟩:=back _ H
    exact⟨x,hx,pN r J⟩
   match i,hi with
   |0,_=>exact q 1 (.agg [.held ((N 0).1::(N 0).2)]) zA
   |1,_=>exact q 2 (.agg [.held ((N 1).1::(N 1).2)]) zA
   |2,_=>exact q 3 (.agg [.held ((N 2).1::(N 2).2)]) zA
   |3,_=>exact q 4 (.agg [.held ((N 3).1::(N 3).2)]) zA
   |4,_=>exact q 5 (.agg [.held ((N 4).1::(N 4).2)]) zA
   |i+5,h=>exact absurd h O
end
section
open Go.Deep
def Gy{ρ:Env}{W:World}{a:Addr}{len cap m:Nat}{f:Nat->List AV}(C:xB ρ W)(I:0<m)(hl:len<=cap)
  (g:∀j,j<len->∃us:List Value,us.length=m/\(∀u∈us,u.oneCell'=true)/\aU ρ.bare (f j) us/\∀k,k<m->W.cell? (a.add (j*m+k))=us[k]?):VR ρ (.az len m f) (.slice (d_ a) len cap):=by
 by_cases p:len=0
 ·subst p
  simp only[VR]
  exact .inr ⟨0,0,cap,a,λ_=>[],rfl,hl,λh=>absurd h (HD _)⟩
 ·obtain⟨D,M,_,_,c0⟩:=g 0 O
  have d:=c0 0 I
  have J:a.add (0*m+0)=a:=by simp[Addr.add]
  rw[J]at d
  obtain⟨b,off,i⟩:=a
  have n:i=B_/\∃cs el fr,W.heap[b]? =d_ (.cells cs el fr):=by
   have e:D[0]? ≠B_:=by rw[mo O];exactλh=>zE
   unfold World.cell? at d
   split at d
   ·rename_i c el fr w
    cases i with
    |none=>exact⟨rfl,c,el,fr,w⟩
    |some s=>simp at d;exact absurd d.symm (by simpa using e)
   ·exact absurd d.symm e
  obtain⟨rfl,cs,el,fr,w⟩:=n
  have K:∀q,(Addr.mk b off B_).add q=⟨b,off+q,B_⟩:=λq=>by
   unfold Addr.add
   by_cases p:q=0
   ·rw[if_pos p,p];rfl
   ·rw[if_neg p]
  have row:∀j,j<len->∃us:List Value,us.length=m/\(∀u∈us,u.oneCell'=true)/\aU ρ.bare (f j) us/\off+j*m+m<=cs.toList.length/\(cs.toList.drop (off+j*m)).take m=us:=by
   intro j r
   obtain⟨us,E,F,G,L⟩:=g j r
   have t:∀k,k<m->cs.toList[off+j*m+k]? =us[k]? :=λk x=>by
    have:=L k x
    rw[K]at this
    simp only[World.cell?,w,z_,kH,if_false]at this
    rw[<-this,u_]
    simp
   have o:off+j*m+m<=cs.toList.length:=by
    have:=t (m-1) O
    rw[mo (O:m-1<us.length)]at this
    have:=(List.getElem?_eq_some_iff.1 this).1
    omega
   refine⟨us,E,F,G,o,?_⟩
   apply List.ext_getElem?
   intro k
   by_cases x:k<m
   ·rw[i_ x,g_,t k x]
   ·rw[x_ (by rw[j_];omega),x_ O]
  have v:off+len*m<=cs.toList.length:=by
   obtain⟨_,_,_,_,h,_⟩:=row (len-1) O
   have N:(len-1)*m+m=len*m:=by
    obtain⟨l,rfl⟩:∃l,len=l+1:=⟨len-1,O⟩
    rw[C_,v_]
   omega
  simp only[VR]
  refine .inr ⟨b,off,cap,⟨b,off,B_⟩,λj=>(cs.toList.drop (off+j*m)).take m,rfl,hl,λ_=>⟨rfl,⟨?_,cs.toList.take off,cs.toList.drop (off+len*m),by rw[j_];omega,?_⟩,λj r=>?_⟩⟩
  ·intro u y
   obtain⟨j,r,y⟩:=List.mem_flatMap.1 y
   obtain⟨us,_,F,_,_,H⟩:=row j (List.mem_range.1 r)
   simp only[H]at y
   exact F u y
  ·rw[C b cs el fr w,rq v,<-E_]
   rw[D_,f_,f_]
  ·obtain⟨us,E,_,G,_,H⟩:=row j r
   simp only[H]
   exact⟨E,G⟩
def Vg{H:Type}{enc:TypeId×Value->H}{P:Program}{W:World}{sp:Nat->Bool}{held:Bool}{fuel:Nat}{t:TypeId}{c:Value}{s:List UInt8}{p:List MemPlace}(ht:P.underlying t=d_ .string)
  (h:DataW.trod enc P W 0 sp held fuel t [c]=d_ (.lit (.string s),p)):c= .string ⟨s.toArray⟩:=by
 obtain⟨b,a,d,_⟩:=DataW.trod_string ht h
 simp only[Prod.mk.injEq,DataW.lit.injEq,Lit.string.injEq]at d
 simp only[List.cons.injEq,and_true]at a
 rw[a,d.1]
def U0{H:Type}{enc:TypeId×Value->H}{P:Program}{W:World}{sp:Nat->Bool}{held:Bool}{fuel:Nat}{t:TypeId}{a rs:Array TypeId}{b:Bool}{c:Value}{p:List MemPlace}(ht:P.underlying t=d_ (.func a rs b))
  (h:DataW.trod enc P W 0 sp held fuel t [c]=d_ (.nil,p)):c= .nilFunc:=by
 cases fuel with
 |zero=>simp[DataW.trod]at h
 |succ n=>cases c<;>simp[DataW.trod,ht]at h<;>rfl
def Sm{ρ:Env}{P:Program}{W:World}{e:TypeId}{a f1:Field}{sp:Nat->Bool}{fuel:Nat}{cs:List Value}{x:DataW (List UInt8)×List MemPlace}{j d1:DataW (List UInt8)}{a0 a1:AV}(q:P.underlying e=d_ (.struct #[a,f1]))(r:a.offset=0)(s:f1.offset=1)(c0:P.cellsOf a.type=1)(t:P.cellsOf f1.type=1)(v:P.cellsOf e=2)
  (h:DataW.trod (funcToken P) P W 0 sp true fuel e cs=d_ x) (hx:x.1= .agg [j,d1])
  (w:∀n c p,DataW.trod (funcToken P) P W 0 sp true n a.type [c]=d_ (j,p)->VR ρ a0 c/\c.oneCell'=true) (y:∀n c p,DataW.trod (funcToken P) P W 0 sp true n f1.type [c]=d_ (d1,p)->VR ρ a1 c/\c.oneCell'=true):
  ∃us:List Value,cs=us/\us.length=2/\(∀u∈us,u.oneCell'=true)/\aU ρ [a0,a1] us:=by
 obtain⟨C,n,_,d,hl,f,b⟩:=DataW.trod_struct q h
 rw[d]at hx
 simp only[DataW.agg.injEq]at hx
 rw[v]at hl
 match C,f,hx with
 |[k,l],_,hx=>
  match cs,hl with
  |[m,g],_=>
   simp only[h_,p_,List.cons.injEq,and_true]at hx
   have i:=b 0 a A
   have g1:=b 1 f1 A
   rw[r,c0]at i
   rw[s,t]at g1
   simp only[r_,n_,s_,e_]at i
   simp only[List.drop_succ_cons,r_,n_,s_,List.getElem?_cons_succ,e_]at g1
   obtain⟨k,p0⟩:=k
   obtain⟨l,F⟩:=l
   obtain⟨rfl,rfl⟩:=hx
   obtain⟨k1,k2⟩:=w _ _ _ i
   obtain⟨D,E⟩:=y _ _ _ g1
   refine⟨[m,g],rfl,rfl,λu o=>?_,⟨m,[g],rfl,k1,g,[],rfl,D,rfl⟩⟩
   simp only[t_,q_,or_false]at o
   rcases o with rfl|rfl
   ·exact k2
   ·exact E
def HC{ρ:Env}{f:FuncId}{c:Value}(h:c= .func (.func f) #[] #[]):VR ρ (.fn f [] []) c/\c.oneCell'=true:=by
 subst h
 refine⟨?_,rfl⟩
 simp only[VR]
 exact⟨[],[],rfl,rfl,rfl⟩
def Yl{ρ:Env}{s:List UInt8}{c:Value}(h:c= .string ⟨s.toArray⟩):VR ρ (.str s) c/\c.oneCell'=true:=by
 subst h
 exact⟨zB,rfl⟩
end
end
end Go.Sx
