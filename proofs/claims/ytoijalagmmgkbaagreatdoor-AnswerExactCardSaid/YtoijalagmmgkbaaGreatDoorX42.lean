/- The proof of a statement of the seat, part 42. -/
import Derived.Test.YtoijalagmmgkbaaGreatDoorX38
import Derived.Test.YtoijalagmmgkbaaGreatDoorX40
import Derived.Test.YtoijalagmmgkbaaGreatDoorX41
import Derived.OpenShut
import Derived.ReadAgain
import Derived.ChangeStays
import Derived.ChangeSame
import Derived.Deep.Slices
import Derived.Test.YtoijalagmmgkbaaGreatDoorX07
import Derived.Test.YtoijalagmmgkbaaGreatDoorX05
set_option linter.all false
set_option linter.defProp false
set_option maxRecDepth 1000000
namespace Go.Sx
open Go
open Decidable renaming decide->B
open Int renaming ofNat->z,toNat->a_,tdiv->f_,natCast_nonneg->s_,le_refl->B_
open AV renaming int->b_,str->g_,bool->A_
open Go.IntKind renaming i64->c_
open List renaming getD_eq_getElem?_getD->d_,range->e_,getElem?_drop->h_,getElem?_take_of_lt->l_,take_append_drop->n_,mem_append_right->o_,all->p_,mem_append_left->q_,length_take->u_
open Nat renaming le_trans->i_,add_sub_cancel->r_,ble->t_,add_assoc->x_,succ_mul->y_,zero_le->z_
open Option renaming some->j_,none->C_
open Bool renaming and_true->k_,true_and->v_,or_true->w_
noncomputable section
def uu(X:Nat->Nat->Int)(j:Nat):(1<=cW X j 0/\cW X j 0<=8)/\(1<=cW X j 1/\cW X j 1<=4)/\(-1<=cW X j 2/\cW X j 2<=38):=by
 have a:=cj (c:=X j 0) (n:=11) O
 have b:=cj (c:=X j 1) (n:=4) O
 have d:=cj (c:=X j 2) (n:=40) O
 refine⟨?_,?_,?_⟩
 ·show 1<=ma (X j 0)/\ma (X j 0)<=8
  unfold ma
  split
  ·omega
  ·rename_i h;have:=of_decide_eq_false h;omega
 ·show 1<=1+av (X j 1) 4/\1+av (X j 1) 4<=4;omega
 ·show -1<=av (X j 2) 40-1/\av (X j 2) 40-1<=38;omega
def xA{l m:List Int}{i:Nat}{d:Int}(h:i<l.length):(l++m).getD i d=l.getD i d:=by
 rw[d_,d_,List.getElem?_append_left h]
def qQ(p:Int):∀(k i:Nat),i<(bM p k).length->(1<=(bM p k).getD i 0/\(bM p k).getD i 0<=(k:Int))/\(i=0∨(bM p k).getD (i-1) 0<(bM p k).getD i 0)
 |0,i,h=>by simp[bM]at h
 |k+1,i,h=>by
  have b:=qQ p k
  unfold bM at h⊢
  split at h
  ·rename_i c
   simp only[List.length_append,List.length_singleton]at h
   by_cases e:i<(bM p k).length
   ·have:=b i e
    rw[xA e]
    refine⟨O,?_⟩
    rcases this.2 with a|a
    ·exact .inl a
    ·right;rw[xA O];exact a
   ·have d:i=(bM p k).length:=by omega
    have el:(bM p k++[(k:Int)+1]).getD i 0=(k:Int)+1:=by
     rw[d,d_,List.getElem?_append_right (dw _),Nat.sub_self];rfl
    rw[el]
    refine⟨O,?_⟩
    by_cases a:i=0
    ·exact .inl a
    ·right
     have:=b (i-1) O
     rw[xA O]
     omega
  ·rename_i c
   have:=b i h
   refine⟨O,this.2⟩
def OO{k:Nat}(h:k<11):oa (wy k) (wz k)=true:=List.any_eq_true.2 ⟨k,List.mem_range.2 h,zA⟩
def OP(agg:Int)(n:Nat)(X:Nat->Nat->Int)(g top:Int):eU (cJ agg n X g top)=true:=by
 have k:=qQ (av g 64) 6
 have hl:=rH (av g 64) 6
 have s:=cj (c:=agg) (n:=5) O
 have t:=cj (c:=f_ agg 5) (n:=2) O
 have l:=cj (c:=f_ agg 10) (n:=11) O
 have ht:=cj (c:=top) (n:=5) O
 unfold eU
 simp only[bf,bn]
 refine⟨⟨⟨⟨⟨?_,hl⟩,?_⟩,?_⟩,?_⟩,?_⟩
 ·show min n 6<=6;omega
 ·refine List.all_eq_true.2 λj _=>?_
  have:=uu X j
  show(B (1<=cW X j 0)&&B (cW X j 0<=8)&&B (1<=cW X j 1)&&B (cW X j 1<=4)&&B (-1<=cW X j 2)&&B (cW X j 2<=4398046511104))=true
  simp only[bf,bn]
  omega
 ·refine List.all_eq_true.2 λj m=>?_
  have:=k j (List.mem_range.1 m)
  show(B (1<=(bM (av g 64) 6).getD j 0)&&B ((bM (av g 64) 6).getD j 0<=6)&&(Nat.beq j 0||B ((bM (av g 64) 6).getD (j-1) 0<(bM (av g 64) 6).getD j 0)))=true
  rw[bW this.1.1,bW (show(bM (av g 64) 6).getD j 0<=6 from this.1.2),v_,v_]
  rcases this.2 with h|h
  ·rw[h];rfl
  ·rw[bW h,w_]
 ·show(B (0<=(cJ agg n X g top).top)&&B ((cJ agg n X g top).top<=100)&&(B ((cJ agg n X g top).top<=0)||Nat.blt 0 (bM (av g 64) 6).length))=true
  have e:(cJ agg n X g top).top=match B (z (bM (av g 64) 6).length>0)with|true=>av top 5|false=>0:=rfl
  rw[e]
  cases d:B (z (bM (av g 64) 6).length>0)with
  |true=>
   have d:=pT d
   have:0<(bM (av g 64) 6).length:=by
    have:((bM (av g 64) 6).length:Int)>0:=d
    omega
   simp only
   rw[bW (O:0<=av top 5),bW (O:av top 5<=100),eV this,w_];rfl
  |false=>rfl
 ·unfold EV
  have o:(cJ agg n X g top).a=1+av agg 5:=rfl
  have p:(cJ agg n X g top).fl=match B (1+av agg 5>1)with|true=>7+av (f_ agg 5) 2|false=>0:=rfl
  have q:(cJ agg n X g top).nu=match B (1+av agg 5=5)with|true=>wy (a_ (av (f_ agg 10) 11))|false=>[]:=rfl
  have r:(cJ agg n X g top).de=match B (1+av agg 5=5)with|true=>wz (a_ (av (f_ agg 10) 11))|false=>[]:=rfl
  rw[o,p,q,r]
  generalize av agg 5=a at*
  have b:(B (7+av (f_ agg 5) 2=7)||B (7+av (f_ agg 5) 2=8))=true:=by
   simp only[Bool.or_eq_true,bn];omega
  have:a=0∨a=4∨(1<=a/\a<=3):=O
  rcases this with rfl|rfl|h
  ·rfl
  ·have f:B ((1:Int)+4>1)=true:=rfl
   have i:B ((1:Int)+4=5)=true:=rfl
   rw[f,i]
   simp only
   rw[b,OO O]
   simp
  ·have f:B (1+a>1)=true:=bW O
   have i:B (1+a=5)=false:=nZ O
   rw[f,i]
   simp only
   rw[b,bW (O:2<=1+a),bW (O:1+a<=4)]
   simp
def J8(agg:Int)(n:Nat)(X:Nat->Nat->Int)(g top:Int):aI 3 (cJ agg n X g top).nw (au (cJ agg n X g top).C)=true:=by
 refine List.all_eq_true.2 λj _=>?_
 have:=uu X j
 show(aN c_ (cW X j 0)&&(aN c_ (cW X j 1)&&(aN c_ (cW X j 2)&&true)))=true
 rw[aq O O,aq O O,aq O O];rfl
def J9(agg:Int)(n:Nat)(X:Nat->Nat->Int)(g top:Int):aI 1 (cJ agg n X g top).ng (aR (cJ agg n X g top).G)=true:=by
 refine List.all_eq_true.2 λj a=>?_
 have:=qQ (av g 64) 6 j (List.mem_range.1 a)
 show(aN c_ ((bM (av g 64) 6).getD j 0)&&true)=true
 rw[aq O O];rfl
def RM(q:Query)(n:Nat)(F:Nat->ay):r8 q n F<=n:=by
 have h:=(lG q F n).len
 unfold r8 ju
 split
 ·exact h
 ·exact i_ (jV _ _) h
def VU{q:Query}(a:q.top=0)(k:Nat)(F:Nat->ay)(D:Nat->Int):sb q k F D=r8 q k F:=by
 unfold sb r8 ju
 rw[if_pos a,if_pos a]
def VV{q:Query}{k:Nat}{F:Nat->ay}{D:Nat->Int}(hq:ct q=true)(b:q.top=0)(c:cX k F=true)(d:r9 k F D)(i:Nat)(hi:i<r8 q k F):bJ (xm q k F D i 0) (xm q k F D i 1)=true:=by
 have e:=jR c
 have a:=(mY hq).2.2
 have hl:i<(aV q F k).length:=by
  unfold r8 ju at hi
  rw[if_pos b]at hi;exact hi
 unfold xm cS
 rw[if_pos b]
 exact cz (xl a e d (Ho q F k hl) (tm a c i hl).1) a
def VW{q:Query}{k M:Nat}{F:Nat->ay}(hq:ct q=true)(u:q.top=0)(l:cX k F=true)(v:k<=M)(y:k<=4)(T:M<=1000)(D:ru (λj=>eD (F j)) k<=256)(d:Nat->Nat->Int)(f:Nat->Nat->List UInt8):
  aE PP II false (aD II 4 18003) 19 (V8 q k M F (ru (λj=>eD (F j)) k:Nat) q.ng (r8 q k F) d f (λn=>zr (λc=>B (c<0)) (qP q k F) n.toNat) (λn=>zr (λc=>B (c>0)) (qP q k F) n.toNat) 0)
   (V9 q.ng (r8 q k F) d f (zr (λc=>B (c<0)) (qP q k F) (ru (λj=>eD (F j)) k)) (zr (λc=>B (c>0)) (qP q k F) (ru (λj=>eD (F j)) k))):=by
 have m:=jR l
 have E:r8 q k F<=1000:=i_ (RM q k F) O
 generalize hp:ru (λj=>eD (F j)) k=P at D
 have key:=aE.Vk (ι:=Nat) iw [QI (sb q k F) (FV q k F) (xm q k F)] 1000 (λn=>[(23004,19,Vn q k M F (P:Int) q.ng (r8 q k F) d f (zr (λc=>B (c<0)) (qP q k F) n) (zr (λc=>B (c>0)) (qP q k F) n) n a_ (ta F n) (λi=>((zl (λj=>eD (F j)) n i.toNat:Nat):Int)) (false,0),Vo q k M F (P:Int) q.ng (r8 q k F) d f (zr (λc=>B (c<0)) (qP q k F) n) (zr (λc=>B (c>0)) (qP q k F) n) n (ta F n)),(32004,20,VH q k M F (P:Int) q.ng (r8 q k F) d f n (sb q k F (ta F n)) (FV q k F (ta F n)) (xm q k F (ta F n)) (Hp (λc=>B (c<0)) (qP q k F) n) (Hp (λc=>B (c>0)) (qP q k F) n) 0,VI q k M F (P:Int) q.ng (r8 q k F) d f n (zr (λc=>B (c<0)) (qP q k F) (n+1)) (zr (λc=>B (c>0)) (qP q k F) (n+1)))])
  (c:=aD II 4 18003) (ir:=false) 19 (λn=>n<=P) (λn=>V8 q k M F (P:Int) q.ng (r8 q k F) d f (λn=>zr (λc=>B (c<0)) (qP q k F) n.toNat) (λn=>zr (λc=>B (c>0)) (qP q k F) n.toNat) (n:Int)) (λ_=>V9 q.ng (r8 q k F) d f (zr (λc=>B (c<0)) (qP q k F) P) (zr (λc=>B (c>0)) (qP q k F) P)) (λn=>P-n) (λn=>n+1) 0 A (z_ _) λn w=>?_
 ·exact key
 have w:n<=P:=w
 have go:∀Q:Prop,(n<P->Q)->kr [QI (sb q k F) (FV q k F) (xm q k F)] [(23004,19,Vn q k M F (P:Int) q.ng (r8 q k F) d f (zr (λc=>B (c<0)) (qP q k F) (n:Int).toNat) (zr (λc=>B (c>0)) (qP q k F) (n:Int).toNat) n a_ (ta F n) (λi=>((zl (λj=>eD (F j)) n i.toNat:Nat):Int)) (false,0),Vo q k M F (P:Int) q.ng (r8 q k F) d f (zr (λc=>B (c<0)) (qP q k F) (n:Int).toNat) (zr (λc=>B (c>0)) (qP q k F) (n:Int).toNat) n (ta F n)),(32004,20,VH q k M F (P:Int) q.ng (r8 q k F) d f n (sb q k F (ta F n)) (FV q k F (ta F n)) (xm q k F (ta F n)) (Hp (λc=>B (c<0)) (qP q k F) n) (Hp (λc=>B (c>0)) (qP q k F) n) 0,VI q k M F (P:Int) q.ng (r8 q k F) d f n (zr (λc=>B (c<0)) (qP q k F) (n+1)) (zr (λc=>B (c>0)) (qP q k F) (n+1)))] 4 18003 19 (V8 q k M F (P:Int) q.ng (r8 q k F) d f (λn=>zr (λc=>B (c<0)) (qP q k F) n.toNat) (λn=>zr (λc=>B (c>0)) (qP q k F) n.toNat)) (λ_=>V9 q.ng (r8 q k F) d f (zr (λc=>B (c<0)) (qP q k F) P) (zr (λc=>B (c>0)) (qP q k F) P)) (λn=>n+1) Q (n:Int):=λQ hQ=>by
  rw[VK (LS:=λn=>zr (λc=>B (c<0)) (qP q k F) n.toNat) (MS:=λn=>zr (λc=>B (c>0)) (qP q k F) n.toNat),show a_ (n:Int)=n from rfl,show a_ ((n:Int)+1)=n+1 by omega,show aM (ae (ta F n))=ta F n from rfl]
  refine Zg (λh=>?_) λh=>?_
  ·have o:n<P:=by omega
   have H:(n:Int)=((zl (λj=>eD (F j)) n (a_ 0):Nat):Int):=rfl
   have p:=hQ o
   have I:=LI m n
   have r:tp k F (ta F n)=true:=List.all_eq_true.2 λj J=>by
    have:=I j (List.mem_range.1 J)
    simp only[bf,bn]
    omega
   have K:=VQ (q:=q) v y m (P:Int) q.ng (r8 q k F) d f (zr (λc=>B (c<0)) (qP q k F) n) (zr (λc=>B (c>0)) (qP q k F) n) n O
   have L:=VT (q:=q) (k:=k) (M:=M) (F:=F) (P:Int) q.ng (r8 q k F) E d f n (FV q k F (ta F n)) (xm q k F (ta F n)) (qP q k F) (λi=>rfl) λn i hi=>VV hq u l (LI m n) i hi
   have s:=VU u k F (ta F n)
   have t:aE PP II false (aD II 4 32004) 20 (VH q k M F (P:Int) q.ng (r8 q k F) d f n (sb q k F (ta F n)) (FV q k F (ta F n)) (xm q k F (ta F n)) (Hp (λc=>B (c<0)) (qP q k F) n) (Hp (λc=>B (c>0)) (qP q k F) n) 0) (VI q k M F (P:Int) q.ng (r8 q k F) d f n (zr (λc=>B (c<0)) (qP q k F) (n+1)) (zr (λc=>B (c>0)) (qP q k F) (n+1))):=by
    rw[s];exact L
   have N:z (sb q k F (ta F n))=z (r8 q k F):=congrArg z s
   have f1:((p_ (e_ M) λi=>bt.free (aF (F i)))&&B (k<=M))=true:=by
    rw[bW v,k_]
    exact List.all_eq_true.2 λ_ _=>rfl
   have R:((p_ (e_ k) λi=>bt.free (ae (ta F n) i))&&B (k<=k))=true:=by
    rw[bW (dw k),k_]
    exact List.all_eq_true.2 λ_ _=>rfl
   have g:tl q q.top=q:=rfl
   have tr:OQ (sb q k F) (FV q k F) (xm q k F) q.nw (au q.C) q.ng (aR q.G) q.a q.fl q.nu q.de q.top k (λj=>aF (F j)) k (ae (ta F n))=true :=
    Ss (Dq.self q) (g▸hq) l r (P3 (RN:=λ_=>r8 q k F) (RA:=λ_=>FM q k F) (RB:=λ_=>oU q k F) (Dq.self q) (g▸hq) l (by rw[g]) (by rw[g]) (by rw[g])) (by rw[g]) (by rw[g]) (by rw[g])
   have S:aN c_ ((n:Int)+1)=true:=aq O O
   have x:∀b:Int->Bool,an (r8 q k F) (gW (zr b (qP q k F) n)) (gW (Hp b (qP q k F) n 0)):=λb=>NC λj _=>by
    unfold Hp
    rw[if_neg O];exact⟨rfl,rfl⟩
   have y1:=x λc=>B (c<0)
   have y2:=x λc=>B (c>0)
   repeat' (with_reducible first|exact K|exact H|exact t|exact f1|exact R|exact tr|exact S|exact y1|exact y2|exact p|exact trivial|rfl|exact s|refine wA N ?_|exact Hz _ _|exact HA _ _|exact eP _ _ _ _|exact bC _ _|exact bO _ _|exact aZ|refine YG ?_ ?_|refine Zf ?_ ?_|refine Zi ?_ ?_|refine Ze ?_ ?_|refine And.intro ?_ ?_)
  ·have e:n=P:=by omega
   subst e
   repeat' (with_reducible first|exact trivial|rfl|exact Hz _ _|exact eP _ _ _ _|refine YG ?_ ?_|refine Zf ?_ ?_|refine Ze ?_ ?_|refine And.intro ?_ ?_)
 exact go _ λh=>⟨O,O,rfl⟩
def VX(g m:Nat)(r:m<=1000)(f:Nat->Nat->Int)(d LS MS:Nat->Nat->List UInt8)(j:∀i,i<m->(d i 0=LS i 0/\d i 1=LS i 1)/\d i 2=MS i 0/\d i 3=MS i 1):
  aE PP II false (aD II 4 39004) 19 (Wa g m f d LS MS 0) Wb:=by
 have key:=aE.of (ι:=Nat) iw [] (bm PP II []) 1000 (c:=aD II 4 39004) (ir:=false) 19 (λi=>i<=m) (λi=>Wa g m f d LS MS (i:Int)) (λ_=>Wb) (λi=>m-i) (λi=>i+1) 0 A (z_ _) λi hi=>?_
 ·exact key
 have hi:i<=m:=hi
 have s:z m=(m:Int):=rfl
 have beq:∀a b:List UInt8,List.beq a a=true:=λa _=>beq_self_eq_true a
 have go:∀Q:Prop,(i<m->Q)->kr [] [] 4 39004 19 (Wa g m f d LS MS) (λ_=>Wb) (λi=>i+1) Q (i:Int):=λQ hQ=>by
  rw[VL,show a_ (i:Int)=i from rfl]
  refine Zg (λh=>?_) λh=>⟨rfl,trivial⟩
  have e:i<m:=O
  have k:(B ((0:Int)<=i)&&B ((i:Int)<z m))=true:=by simp only[bf,bn];omega
  have l:(B (0+i<m))=true:=bW O
  have n:aN c_ ((i:Int)+1)=true:=aq O O
  obtain⟨⟨s0,o⟩,p,q⟩:=j i e
  rw[k,l,n,Nat.zero_add,s0,o,p,q,beq _ [],beq _ [],beq _ [],beq _ []]
  have hq:=hQ e
  have nt:∀{x:Prop},x->ah (!(true&&(true&&true))) False x:=λh=>h
  repeat' (first|exact hq|with_reducible refine nt ?_|with_reducible exact trivial|with_reducible rfl|with_reducible exact Hz _ _|with_reducible exact eP _ _ _ _|with_reducible refine YG ?_ ?_|with_reducible refine Zf ?_ ?_|with_reducible refine Ze ?_ ?_|with_reducible refine And.intro ?_ ?_)
 exact go _ λh=>⟨O,O,rfl⟩
def VY(n:Nat)(X:Nat->Nat->Int)(m:Nat)(C:Nat->Nat->Int)(agg g top:Int)(q:Query)(K k:Nat)(F b:Nat->ay)(G:Int->Nat->ay)(P:Int->Int)(p:Int)(RN:Int->Nat)(RA:Int->Nat->Nat->Int)(RB:Int->Nat->Nat->List UInt8)(LS MS:Int->Nat->Nat->List UInt8)(c d:Nat->Nat->List UInt8)(Q:AV->Prop):(jE [S7,OE q,Su K F,V3 RN RA RB] (mG PP II [(8004,17,V6 (tl q 0) k K G P 0,V7 (tl q 0) k K b p),(18003,19,V8 (tl q 0) k K b p q.ng (RN 0) (RA 0) (RB 0) LS MS 0,V9 q.ng (RN 0) (RA 0) (RB 0) c d),(39004,19,Wa q.ng (RN 0) (RA 0) (RB 0) c d 0,Wb)]) 1000 4 [.agg [.int c_ agg,.az m 3 (au C),.int c_ g,.int c_ top],.az n 6 (fm X)] Hm (λa H=>aa (t_ 14 H.n) (Q a)) (λ_ _=>False))=(let e:=(bq.cells [g_ [48],g_ [49]] Access.ro);let f:=(B (0<=z (RN 0))&&B (z (RN 0)<=z (RN 0))&&xF (32*z (RN 0)) 281474976710656&&t_ (RN 0) 9223372036854775807);(aa (FY (bq.cells [AV.az 5 2 aA] Access.ro) e (bq.cells [b_ c_ 7,b_ c_ 9,b_ c_ 11,b_ c_ 99] Access.ro) (bq.cells [AV.map (j_ 13)] Access.ro) (bq.cells [b_ .u64 1,b_ .u64 10,b_ .u64 100,b_ .u64 1000,b_ .u64 10000,b_ .u64 100000,b_ .u64 1000000,b_ .u64 10000000,b_ .u64 100000000,b_ .u64 1000000000,b_ .u64 10000000000,b_ .u64 100000000000,b_ .u64 1000000000000,b_ .u64 10000000000000,b_ .u64 100000000000000,b_ .u64 1000000000000000,b_ .u64 10000000000000000,b_ .u64 100000000000000000,b_ .u64 1000000000000000000,b_ .u64 10000000000000000000] (Access.ex 20)) e (bq.cells [g_ [49],g_ [49]] Access.ro) (bq.map lS)) (aa (aI 3 m (au C)&&aN c_ agg&&aN c_ g&&aN c_ top&&tC q agg m (au C) g top) (aa (aI 6 n (fm X)&&zp K F n (fm X)) (aa (B (0<=if 4<z K then 4 else z K)&&B ((if 4<z K then 4 else z K)<=z K)) (aE PP II false (aD II 4 8004) 17 (V6 (tl q 0) k K G P 0) (V7 (tl q 0) k K b p)/\zyN K ((an K (λj=>aF (F j)) λj=>aF (G 0 j))/\zyN q.nw (zyR q.nw (au q.C) (zyN q.ng (zyR q.ng (aR q.G) (zyI q.a (zyI q.fl (zyB q.nu (zyB q.de (zyB [48] (zyB [49] (zyR 5 aA (ax (a_ (if 4<z K then 4 else z K)) k (true=true/\aH 1 (P 0) (aa ((p_ (e_ K) λi=>bt.free (aF (b i)))&&B (k<=K)) (aa (OK RN RA RB q.nw (au q.C) q.ng (aR q.G) q.a q.fl q.nu q.de 0 k λj=>aF (b j)) (aa f (aa f (aE PP II false (aD II 4 18003) 19 (V8 (tl q 0) k K b p q.ng (RN 0) (RA 0) (RB 0) LS MS 0) (V9 q.ng (RN 0) (RA 0) (RB 0) c d)/\ax (a_ (z (RN 0))) (RN 0) (an (a_ (z (RN 0))) (λx=>[g_ [],g_ []]) (gW (MS 0))/\ax (a_ (z (RN 0))) (RN 0) (an (a_ (z (RN 0))) (λx=>[g_ [],g_ []]) (gW (LS 0))/\zyN K ((an K (λj=>aF (b j)) λj=>aF (b j))/\zyN q.nw (zyR q.nw (au q.C) (zyN q.ng (zyR q.ng (aR q.G) (zyI q.a (zyI q.fl (zyB q.nu (zyB q.de (zyB [48] (zyB [49] (zyR 5 aA (zyN k (true=true/\ax (a_ (z (RN 0))) (RN 0) (ax (a_ (z (RN 0))) (RN 0) (zyI p (ax (a_ (z (RN 0))) (RN 0) (ax (a_ (z (RN 0))) (RN 0) (zyN (RN 0) (zyR (RN 0) (aX q.ng (RA 0) (RB 0)) (aE PP II false (aD II 4 39004) 19 (Wa q.ng (RN 0) (RA 0) (RB 0) c d 0) Wb/\zyN (RN 0) (zyR (RN 0) (gW d) (zyN (RN 0) (zyR (RN 0) (gW c) (true=true/\zyN (RN 0) (zyN (RN 0) (zyN (RN 0) (zyN (RN 0) (zyN (RN 0) (zyR (RN 0) (aX q.ng (RA 0) (RB 0)) (Q (A_ true))))))))))))))))))))))))))))))))))))))))))))))))))))))))):=U
def Vj{q:Query}{K k:Nat}{F:Nat->ay}(hq:ct q=true)(x:Good K F)(hK:K<=24)(hk:k=min K 4)(n:Nat)(X:Nat->Nat->Int)(m:Nat)(C:Nat->Nat->Int)(agg g top:Int)
  (G:aI 3 m (au C)=true) (ha:aN c_ agg=true) (t:aN c_ g=true) (ht:aN c_ top=true) (hX:aI 6 n (fm X)=true)
  (I:cJ agg (min m 3) (bG (au C)) g top=q) (J:mZ n (bG (fm X))=K) (L:oW n (bG (fm X))=F) (RN:Int->Nat) (RA:Int->Nat->Nat->Int) (RB:Int->Nat->Nat->List UInt8)
  (f:r8 (tl q 0) k (oA F k)=RN 0) (M:FM (tl q 0) k (oA F k)=RA 0) (y:oU (tl q 0) k (oA F k)=RB 0):
  jE [S7,OE q,Su K F,V3 RN RA RB] (mG PP II [(8004,17,V6 (tl q 0) k K (λi=>oA F i.toNat) (Dj F) 0,V7 (tl q 0) k K (oA F k) (Dj F k)),(18003,19,V8 (tl q 0) k K (oA F k) (Dj F k) q.ng (RN 0) (RA 0) (RB 0) (λn=>zr (λc=>B (c<0)) (qP (tl q 0) k (oA F k)) n.toNat) (λn=>zr (λc=>B (c>0)) (qP (tl q 0) k (oA F k)) n.toNat) 0,V9 q.ng (RN 0) (RA 0) (RB 0) (zr (λc=>B (c<0)) (qP (tl q 0) k (oA F k)) (Dj F k).toNat) (zr (λc=>B (c>0)) (qP (tl q 0) k (oA F k)) (Dj F k).toNat)),(39004,19,Wa q.ng (RN 0) (RA 0) (RB 0) (zr (λc=>B (c<0)) (qP (tl q 0) k (oA F k)) (Dj F k).toNat) (zr (λc=>B (c>0)) (qP (tl q 0) k (oA F k)) (Dj F k).toNat) 0,Wb)]) 1000 4 [.agg [.int c_ agg,.az m 3 (au C),.int c_ g,.int c_ top],.az n 6 (fm X)] Hm (λa H=>aa (t_ 14 H.n) (a= .bool true)) (λ_ _=>False):=by
 have o:k<=K:=O
 have u:k<=4:=O
 have v:ct (tl q 0)=true:=TM hq
 have N:∀j,j<K->bB (F j)=true:=λj P=>x.val j P
 have Q:=Vf x o k
 have p:cX k (oA F k)=true:=Q.UI O
 have w:=jR p
 have d:∀i,i<=k->ru (λj=>eD (oA F k j)) i=ru (λj=>eD (zT (F j))) i:=λi=>by
  induction i with
  |zero=>intro _;rfl
  |succ i R=>
   intro hi
   show ru _ i*eD (oA F k i)=ru _ i*eD (zT (F i))
   rw[R O]
   unfold oA
   rw[if_pos O]
 have S:Dj F (k:Int)=((ru (λj=>eD (oA F k j)) k:Nat):Int):=by
  unfold Dj
  rw[d k (dw k)];rfl
 have T:ru (λj=>eD (oA F k j)) k<=256:=by
  rw[d k (dw k)]
  exact i_ (Q7 (k:=k) (F:=λj=>zT (F j)) (λ_ _=>NB) k (dw k)) (Nat.pow_le_pow_right O u)
 have mp:=LJ w k (dw k)
 have D:=VP (q:=tl q 0) o u N
 have E:=VW v A p o u (O:K<=1000) T (RA 0) (RB 0)
 have U:RN 0<=1000:=by rw[<-f];exact i_ (RM _ _ _) O
 have le:=VX q.ng (RN 0) U (RA 0) (RB 0) (zr (λc=>B (c<0)) (qP (tl q 0) k (oA F k)) (ru (λj=>eD (oA F k j)) k)) (zr (λc=>B (c>0)) (qP (tl q 0) k (oA F k)) (ru (λj=>eD (oA F k j)) k)) λi hi=>by
  rw[<-f]at hi
  rw[<-y]
  obtain⟨r,s⟩:=Sr v rfl p i hi
  obtain⟨l,el⟩:∃l,ru (λj=>eD (oA F k j)) k=l+1:=⟨ru (λj=>eD (oA F k j)) k-1,O⟩
  rw[el]at r s⊢
  rw[r_]at r s
  exact⟨⟨(congrArg (·.1) r).symm,(congrArg (·.2) r).symm⟩,(congrArg (·.1) s).symm,(congrArg (·.2) s).symm⟩
 have en:q.ng=(tl q 0).ng:=rfl
 rw[S]at D⊢
 rw[show a_ ((ru (λj=>eD (oA F k j)) k:Nat):Int)=ru (λj=>eD (oA F k j)) k from rfl]
 rw[f,show(tl q 0).ng=q.ng from rfl]at E
 have V:=P3 (RN:=RN) (RA:=RA) (RB:=RB) (Dq.self q) v p f M y
 have e:a_ (if 4<z K then 4 else z K)=k:=by
  have:z K=(K:Int):=rfl
  split<;>omega
 have W:(B ((0:Int)<=if 4<z K then 4 else z K)&&B ((if 4<z K then 4 else z K)<=z K))=true:=by
  have:0<=z K:=s_ K
  simp only[bf,bn]
  by_cases h:4<z K
  ·rw[if_pos h];exact⟨zC,Int.le_of_lt h⟩
  ·rw[if_neg h];exact⟨this,B_ _⟩
 have f1:((p_ (e_ K) λi=>bt.free (aF (oA F k i)))&&B (k<=K))=true:=by
  rw[bW o,k_]
  exact List.all_eq_true.2 λ_ _=>rfl
 have Y:(B ((0:Int)<=z (RN 0))&&B (z (RN 0)<=z (RN 0))&&xF (32*z (RN 0)) 281474976710656&&t_ (RN 0) 9223372036854775807)=true:=by
  have h1:z (RN 0)=(RN 0:Int):=rfl
  rw[kV (O:RN 0<=9223372036854775807),iH.2 (O:32*z (RN 0)<=281474976710656),bW (show(0:Int)<=z (RN 0)from s_ (RN 0)),bW (B_ (z (RN 0)))];rfl
 have z1:∀b:Int->Bool,an (RN 0) (λ_=>[g_ [],g_ []]) (gW (zr b (qP (tl q 0) k (oA F k)) 0)):=λb _ _ _=>⟨rfl,rfl,trivial⟩
 have y1:=z1 λc=>B (c<0)
 have y2:=z1 λc=>B (c>0)
 have p0:(1:Int)=Dj F 0:=rfl
 have w0:an K (λj=>aF (F j)) λj=>aF (oA F 0 j):=λj _ σ=>by
  have:oA F 0 j=F j:=if_neg (lZ j)
  dsimp only
  rw[this];exact cL σ _
 rw[VY,e,W,f1,Y,show a_ (z (RN 0))=RN 0 from rfl,show a_ (0:Int)=0 from rfl]
 have Z:A_ true=A_ true:=rfl
 refine cC _ _ (Bl A A A A A A A A) (cC _ _ (by rw[G,ha,t,ht,J3 I];rfl) (cC _ _ (by rw[hX,OG J L];rfl) ?_))
 repeat' (with_reducible first|exact D|exact E|exact le|exact V|exact y1|exact y2|exact p0|exact w0|exact trivial|rfl|exact Hz _ _|exact HA _ _|exact eP _ _ _ _|exact bC _ _|exact bO _ _|exact aZ|refine YG ?_ ?_|refine Zf ?_ ?_|refine Zi ?_ ?_|refine Ze ?_ ?_|refine And.intro ?_ ?_)
def VZ{n:Nat}{X:Nat->Nat->Int}{m:Nat}{C:Nat->Nat->Int}{agg g top:Int}(c:aI 3 m (au C)=true)(ha:aN c_ agg=true)(d:aN c_ g=true)(ht:aN c_ top=true)(hX:aI 6 n (fm X)=true):
  af PP II 4 [.agg [.int c_ agg,.az m 3 (au C),.int c_ g,.int c_ top],.az n 6 (fm X)] Hm (.ret (.bool true) (AH.blank 14)):=by
 have h:=Vj (q:=cJ agg (min m 3) (bG (au C)) g top) (by unfold ct;rw[J8,J9,OP];rfl) (zd (bG (fm X)) _) (Ra n _) A n X m C agg g top c ha d ht hX A A A (λ_=>_) (λ_=>_) (λ_=>_) A A A
 obtain⟨o,b,e⟩:=fJ iw _ (bm PP II _) 1000 4 _ Hm _ _ h
 cases o with
 |ret a H1=>
  obtain⟨f,k1⟩:=Zk b
  have k1:a= .bool true:=k1
  subst k1
  exact e.le (ky.of [] (im.of A A A A f (gS.2 λl _=>trivial)) A)
 |qt a H1=>exact b.elim
section
open Go.ChangeShapes Go.WideShapes Go.Deep
section
variable {H:Type} {enc:TypeId×Value->H} {P:Program} {W:World} {sp:Nat->Bool} {held:Bool}
def kU(W a:World):Prop:=a.os=W.os/\a.output=W.output/\∀i,i<W.heap.size->a.heap[i]? =W.heap[i]?
theorem kU.same{a:World}(h:kU W a){p:MemPlace}(c:p.block<W.heap.size):W.sameAt a p:=by
 cases p with
 |cell b off=>show a.cell? _=W.cell? _;unfold World.cell?;rw[h.2.2 b c]
 |map b=>exact h.2.2 b c
theorem kU.frozen{a:World}(h:kU W a){b off:Nat}(c:b<W.heap.size):a.frozen? ⟨b,off,C_⟩=W.frozen? ⟨b,off,C_⟩:=by
 unfold World.frozen?
 rw[h.2.2 b c]
end
end
section
open Go.ChangeShapes Go.WideShapes Go.Deep
def RP(m:Nat)(X:Nat->Nat->Int)(j:Nat):List AV:=(e_ m).map λk=> .int c_ (X j k)
def xB(ρ:Env)(W:World):Prop := ∀b cs el fr,W.heap[b]? =j_ (.cells cs el fr)->ρ.fz b=j_ cs.toList
section
variable {H:Type} {enc:TypeId×Value->H} {P:Program} {W:World} {sp:Nat->Bool} {held:Bool}
theorem xC{a:Int}(h:(Lit.int c_ a).wf=true):aN c_ a=true:=by
 unfold aN
 rw[Km,Km]
 exact h
theorem zx{ρ:Env}:∀{m:Nat}{us:List Value}{x:Nat->Int},us.length=m->(∀k,k<m->us[k]? =j_ (.int c_ (x k)))->aU ρ ((e_ m).map λk=> .int c_ (x k)) us
 |0,us,x,hl,_=>by
  have:us=[]:=List.length_eq_zero_iff.1 hl
  subst this;exact A
 |m+1,us,x,hl,h=>by
  match us,hl,h with
  |u::us,hl,h=>
   have a:=h 0 O
   simp only[List.getElem?_cons_zero,fE]at a
   rw[List.range_succ_eq_map,List.map_cons,List.map_map]
   refine⟨u,us,rfl,a,zx (m:=m) (x:=λk=>x (k+1)) (by simpa using hl) λk b=>?_⟩
   have:=h (k+1) O
   simpa using this
theorem zy{ρ:Env}(J:xB ρ W){t e i m:Nat}{fuel:Nat}{v:Value}{x:DataW H×List MemPlace}(ht:P.underlying t=j_ (.slice e))(V:P.underlying e=j_ (.array m i))(hi:P.underlying i=j_ (.int c_))(Y:P.cellsOf i=1)(Z:P.cellsOf e=m)(hm:0<m)
  (h:DataW.trod enc P W 0 sp held fuel t [v]=j_ x):∃(n:Nat)(X:Nat->Nat->Int),VR ρ (.az n m (RP m X)) v/\∀j,j<n->∀k,k<m->aN c_ (X j k)=true:=by
 rcases open_slice ht h with⟨h0,_⟩|⟨a,len,cap,mm,nn,D,Pl,hv,_,hl,_,K,_,hx⟩
 ·cases h0
  refine⟨0,λ_ _=>0,?_,λj f=>absurd f (lZ _)⟩
  simp[VR]
 ·cases hv
  have ab:len<=mm:=by rw[K];split<;>omega
  rw[Z]at hx
  by_cases E:len=0
  ·subst E
   refine⟨0,λ_ _=>0,?_,λj f=>absurd f (lZ _)⟩
   simp only[VR]
   exact .inr ⟨0,0,cap,a,λ_=>[],rfl,hl,λh=>absurd h (HD _)⟩
  ·have cells:∀j k,j<len->k<m->∃d,W.cell? (a.add (j*m+k))=j_ (.int c_ d)/\aN c_ d=true:=by
    intro j k f g
    obtain⟨L,G,M⟩:=hx j O
    obtain⟨_,o,hc⟩:=World.cells?_some G
    obtain⟨xs,m',_,_,_,_,N⟩:=DataW.trod_array V M
    have r:=N k g
    rw[Y,Nat.mul_one]at r
    have Q:k<xs.length:=O
    rw[mo Q]at r
    obtain⟨d,R,_,S⟩:=DataW.trod_int hi r
    have T:L[k]? =j_ (.int c_ d):=by
     have:=congrArg (·[0]?) R
     simpa [List.getElem?_take,h_]using this
    refine⟨d,?_,xC S⟩
    rw[<-add_add,hc k g];exact T
   let X:Nat->Nat->Int:=λj k=>match W.cell? (a.add (j*m+k))with|some (.int c_ d)=>d|_=>0
   have hX:∀j k,j<len->k<m->W.cell? (a.add (j*m+k))=j_ (.int c_ (X j k))/\aN c_ (X j k)=true:=by
    intro j k f g
    obtain⟨d,G,M⟩:=cells j k f g
    have:X j k=d:=by simp only[X];rw[G]
    rw[this];exact⟨G,M⟩
   have p:=(hX 0 0 O hm).1
   have ea:a.add (0*m+0)=a:=by simp[Addr.add]
   rw[ea]at p
   obtain⟨b,off,q⟩:=a
   have w:q=C_/\∃cs el fr,W.heap[b]? =j_ (.cells cs el fr):=by
    unfold World.cell? at p
    split at p
    ·rename_i c el fr I
     cases q with
     |none=>exact⟨rfl,c,el,fr,I⟩
     |some s=>simp at p
    ·cases p
   obtain⟨rfl,cs,el,fr,I⟩:=w
   have y:∀j k,j<len->k<m->cs.toList[off+(j*m+k)]? =j_ (.int c_ (X j k)):=by
    intro j k f g
    have:=(hX j k f g).1
    have e1:(Addr.mk b off C_).add (j*m+k)=⟨b,off+(j*m+k),C_⟩:=by
     unfold Addr.add
     by_cases E:j*m+k=0
     ·rw[if_pos E,E];rfl
     ·rw[if_neg E]
    rw[e1]at this
    simp only[World.cell?,I,Option.isSome_none,kH,if_false]at this
    simpa using this
   have C:off+len*m<=cs.toList.length:=by
    have:=(List.getElem?_eq_some_iff.1 (y (len-1) (m-1) O O)).1
    have e2:(len-1)*m+m=len*m:=by
     obtain⟨l,rfl⟩:∃l,len=l+1:=⟨len-1,O⟩
     rw[r_,y_]
    omega
   refine⟨len,X,?_,λj f k g=>(hX j k f g).2⟩
   simp only[VR]
   refine .inr ⟨b,off,cap,⟨b,off,C_⟩,λj=>(cs.toList.drop (off+j*m)).take m,rfl,hl,λ_=>⟨rfl,⟨?_,cs.toList.take off,cs.toList.drop (off+len*m),by rw[u_];omega,?_⟩,λj f=>?_⟩⟩
   ·intro u U
    obtain⟨j,f,U⟩:=List.mem_flatMap.1 U
    have f:=List.mem_range.1 f
    obtain⟨k,g⟩:=List.mem_iff_getElem?.1 U
    have F:k<m:=by
     have:=(List.getElem?_eq_some_iff.1 g).1
     simp at this;omega
    rw[l_ F,h_,x_,y j k f F]at g
    cases g;rfl
   ·rw[J b cs el fr I,rq C,<-List.drop_drop]
    rw[List.append_assoc,n_,n_]
   ·have o:((cs.toList.drop (off+j*m)).take m).length=m:=by
     have:j*m+m<=len*m:=by
      have:=Nat.mul_le_mul_right m (show j+1<=len from f)
      rw[y_]at this;exact this
     simp only[u_,List.length_drop];omega
    refine⟨o,zx o λk g=>?_⟩
    rw[l_ g,h_,x_]
    exact y j k f g
theorem zz{d:World}{a:Nat->Bool}{T:TypeId->Prop}(K:Kids P T)(f:∀{t e:TypeId},T t->P.underlying t=j_ (.slice e)->0<P.cellsOf e):∀{c:List TypeId}{vs:List Value}{ds:List (DataW H)}{b:List MemPlace},(∀t∈c,T t)->
  DataW.TrodAll enc P W 0 (λ_=>true) true c vs ds b->(∀p∈b,W.sameAt d p)->(∀p∈b,a p.block=true)->DataW.TrodAll enc P d 0 a true c vs ds b
 |[],[],[],_,_,h,_,_=>h
 |_::_,_::_,_::_,_,g,⟨p,q,⟨n,h1⟩,k,e⟩,i,j=>⟨p,q,⟨n,DataW.trod_stays K f (λh=>zE) (g _ (List.mem_cons.2 (.inl A))) h1 (λx hx=>i x (by rw[e];exact q_ _ hx)) (λx hx=>j x (by rw[e];exact q_ _ hx))⟩,
   zz K f (λt ht=>g t (List.mem_cons.2 (.inr ht))) k (λx hx=>i x (by rw[e];exact o_ _ hx)) (λx hx=>j x (by rw[e];exact o_ _ hx)),e⟩
theorem kU.Y6{b:World}(h:kU W b)(a:MemPlace->Prop):W.keptBut b a:=by
 refine⟨h.1,h.2.1,λi hi=>?_⟩
 rw[h.2.2 i hi]
 cases hw:W.heap[i]? with
 |none=>trivial
 |some o=>cases o<;>first|exact⟨rfl,rfl,rfl,λ_ _=>rfl⟩|exact .inr ⟨rfl,rfl⟩|rfl
theorem Ka{l:World}{f:Func}{s:ChangeSpec}{apart fresh a h:Bool}{args:Array Value}{v:Value}{ds gs:List (DataW H)}{before:List MemPlace}{T:TypeId->Prop}(K:Kids P T)(G:∀{t e:TypeId},T t->P.underlying t=j_ (.slice e)->0<P.cellsOf e)(I:∀t∈f.params.toList,T t)
  (c:s.vars=[]) (u:DataW.Whole enc P f.params.toList s.vars apart W args.toList ds gs before) (w:kU W l)
  (g:∀(b:Nat)(sp:Nat->Bool)(J:Bool),DataW.TrodAll enc P l b sp J f.resultTypes.toList (v.resultList f.resultTypes.size) (s.fn H (ds++gs)).results [])
  (x:(s.fn H (ds++gs)).args=ds) (y:(s.fn H (ds++gs)).vars=gs)
  (C:∀(j:Nat)(t:TypeId)(r:Value),f.resultTypes[j]? =j_ t->(v.resultList f.resultTypes.size)[j]? =j_ r->Value.okWide P l .any 0 t r):
  s.post enc P f apart fresh a h W args v l:=by
 have i:=u.lt
 have D:=u
 obtain⟨N,O,hA,F,m,E,L⟩:=u
 rw[c]at F
 obtain⟨rfl,rfl⟩:=trodVars_none F
 rw[List.append_nil]at m
 subst m
 have d:∀sp:Nat->Bool,(∀p∈before,sp p.block=true)->DataW.TrodAll enc P l 0 sp true f.params.toList args.toList (s.fn H (ds++[])).args before:=λsp M=>by
  rw[x];exact zz K G I hA (λp k=>w.same (i p k)) M
 have n:∀sp:Nat->Bool,DataW.TrodVars enc P l sp s.vars (s.fn H (ds++[])).vars []:=λsp=>by rw[c,y];exact A
 have o:∀p∈before,(λb=>B (b<W.heap.size)) p.block=true:=λp k=>by simpa using i p k
 refine⟨ds,[],before,[],before,[],D,g _ _ _,d _ o,n _,w.Y6 _,λ_=>?_⟩
 refine⟨C,_,_,([]++before)++[],⟨[]++before,[],trodAll_append (d _ (λ_ _=>rfl)) (g _ _ _),n _,rfl,?_,?_⟩,?_⟩
 ·intro b off k
  have q:MemPlace.cell b off∈before:=by simpa using k
  rw[w.frozen (b:=b) (off:=off) (i _ q)]
  exact E b off q
 ·intro ha
  simpa using L ha
 ·intro p k _
  simpa using k
end
end
end
end Go.Sx
