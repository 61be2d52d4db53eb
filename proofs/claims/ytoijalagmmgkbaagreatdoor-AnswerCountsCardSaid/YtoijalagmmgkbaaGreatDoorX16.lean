/- The proof of a statement of the seat, part 16. -/
import Derived.Test.YtoijalagmmgkbaaGreatDoorX15
import Derived.Below
import Derived.Test.YtoijalagmmgkbaaGreatDoorX14
set_option linter.all false
set_option linter.defProp false
set_option maxRecDepth 1000000
namespace Go.Sx
open Go
open Int renaming ofNat->M,toNat->z,natCast_nonneg->b_,le_refl->j_,fdiv_eq_ediv_of_nonneg->k_,emod->u_,emod_eq_of_lt->z_,fdiv->E_
open Decidable renaming decide->a_
open Bool renaming true_and->c_,not_eq_false'->v_,not_eq_true'->y_
open AV renaming int->d_,le->B_
open List renaming take->e_,drop->f_,all->p_,range->w_
open AH renaming blank->g_
open Nat renaming blt->h_,le_trans->i_,blt_eq->l_,mul_div_le->m_,zero_add->n_,ble->o_,div_lt_iff_lt_mul->q_,le_div_iff_mul_le->r_,ble_eq->x_,div_eq_of_lt->A_,mul_comm->C_,zero_mod->D_,beq->F_
noncomputable section
def rA{a b}:dU a b>0↔b<a:=by
 unfold dU
 omega
def Iz(m R:Nat)(p:Int×Int):Int×Int:=match a_ (m*z ((p.1+p.2)/2+1)<=R)with
 |true=>((p.1+p.2)/2+1,p.2)
 |false=>(p.1,(p.1+p.2)/2)
def mO(v k):(a_ (ar v=ar v)&&true&&p_ (List.range.loop k []) λi=>a_ (aO v i=aO v i)&&true)=true:=zA
def BX{k m a R W}(e:0<m)(g:R<10000*m)(l:ar m<=80000):aE PP II false (aD II 159 2003) 27 (LK 20 27 k m a R W (0,9999)) (LL 20 27 k m a R W (M (R/m))):=
 aE.of (ι:=Int×Int) iw [GF,SD] (bm PP II []) 1000 27 (λp=>0<=p.1/\p.1<=M (R/m)/\M (R/m)<=p.2/\p.2<=9999) (LK 20 27 k m a R W) (λ_=>LL 20 27 k m a R W (M (R/m))) (λp=>(p.2-p.1).toNat) (Iz m R) (0,9999) A
  ⟨j_ _,b_ _,by
   have:R/m<10000:=by rw[q_ e];exact g
   grind,j_ _⟩ λp o=>by
  obtain⟨i,j⟩:=p
  obtain⟨q,r,s,t⟩:=o
  change 0<=i at q
  change i<=((R/m:Nat):Int)at r
  change ((R/m:Nat):Int)<=j at s
  change j<=9999 at t
  refine(LM k m a R W _ i j (Iz m R) _).mpr ?_
  have u:E_ (u_ (i+j) 18446744073709551616) 2=(i+j)/2:=by
   rw[show u_ (i+j) 18446744073709551616=i+j from z_ O O,k_ _ O]
  rw[u,bZ m,bZ (m*z ((i+j)/2+1)),bZ R]
  refine Zh (λh=>?_) λh=>?_
  ·simp only[bn]at h
   obtain⟨b,x⟩:∃n:Nat,(i+j)/2=(n:Int):=⟨((i+j)/2).toNat,O⟩
   have v:(n:Nat)->n<10000->ar (m*n)<=ar m+1:=λn hn=>eh _ _ (Ai hn (dw _))
   have ht:z ((i+j)/2+1)=b+1:=O
   have hx:Iz m R (i,j)=(match a_ (m*(b+1)<=R)with|true=>((i+j)/2+1,j)|false=>(i,(i+j)/2)):=by show(match a_ (m*z ((i+j)/2+1)<=R)with|true=>((i+j)/2+1,j)|false=>(i,(i+j)/2))=_;rw[ht]
   rw[ht]
   have f:=v (b+1) O
   have key:m*(b+1)<=R↔b<R/m:=by rw[C_,<-r_ e];rfl
   refine Ze (aq O O) (Ze (aq O O) (Ze (aq O O) (Ze ?_ (Ze (mO _ _) (Ze ?_ (Zh (λc=>Ze (aq O O) ?_) λc=>?_))))))
   ·rw[cM];simp only[c_,bf,bn,x_];omega
   ·rw[cM,cM];rw[bf,bf];exact⟨ZD,kV O⟩
   ·simp only[y_,iK,rA]at c
    have d:a_ (m*(b+1)<=R)=true:=Y
    have w:b<R/m:=key.1 O
    rw[d]at hx
    refine YG A ⟨Zj λ_ _=>cn _ _ _,rfl,rfl,YG A ⟨Zj λ_ _=>cn _ _ _,YG A ⟨dG _ _,YG A ⟨Zj λ_ _=>cn _ _ _,YG A (YG A (YG A ⟨Zj λ_ _=>cn _ _ _,Zf Y (Zf (congrArg Prod.snd hx).symm ⟨?_,?_,rfl⟩)⟩))⟩⟩⟩⟩
    all_goals grind
   ·simp only[v_,bn,rA]at c
    have d:a_ (m*(b+1)<=R)=false:=Y
    have w :¬ b<R/m:=O
    rw[d]at hx
    refine YG A ⟨Zj λ_ _=>cn _ _ _,rfl,rfl,YG A ⟨Zj λ_ _=>cn _ _ _,YG A ⟨dG _ _,YG A ⟨Zj λ_ _=>cn _ _ _,YG A (YG A (YG A ⟨Zj λ_ _=>cn _ _ _,Zf Y (Zf (congrArg Prod.snd hx).symm ⟨?_,?_,rfl⟩)⟩))⟩⟩⟩⟩
    all_goals grind
  ·simp only[iK]at h
   refine YG A ⟨Zj λ_ _=>cn _ _ _,rfl,rfl,YG A ⟨Zj λ_ _=>cn _ _ _,YG A ⟨dG _ _,YG A ⟨Zj λ_ _=>cn _ _ _,YG A (YG A (YG A ⟨Zj λ_ _=>cn _ _ _,Zf ?_ trivial⟩))⟩⟩⟩⟩
   grind
def LO{k m a R W}(e:0<m)(g:R<10000*m)(l:ar m<=80000):aE PP II false (aD II 159 2003) 28 (LK 21 28 k m a R W (0,9999)) (LL 21 28 k m a R W (M (R/m))):=
 aE.of (ι:=Int×Int) iw [GF,SD] (bm PP II []) 1000 28 (λp=>0<=p.1/\p.1<=M (R/m)/\M (R/m)<=p.2/\p.2<=9999) (LK 21 28 k m a R W) (λ_=>LL 21 28 k m a R W (M (R/m))) (λp=>(p.2-p.1).toNat) (Iz m R) (0,9999) A
  ⟨j_ _,b_ _,by
   have:R/m<10000:=by rw[q_ e];exact g
   grind,j_ _⟩ λp o=>by
  obtain⟨i,j⟩:=p
  obtain⟨q,r,s,t⟩:=o
  change 0<=i at q
  change i<=((R/m:Nat):Int)at r
  change ((R/m:Nat):Int)<=j at s
  change j<=9999 at t
  refine(LN k m a R W _ i j (Iz m R) _).mpr ?_
  have u:E_ (u_ (i+j) 18446744073709551616) 2=(i+j)/2:=by
   rw[show u_ (i+j) 18446744073709551616=i+j from z_ O O,k_ _ O]
  rw[u,bZ m,bZ (m*z ((i+j)/2+1)),bZ R]
  refine Zh (λh=>?_) λh=>?_
  ·simp only[bn]at h
   obtain⟨b,x⟩:∃n:Nat,(i+j)/2=(n:Int):=⟨((i+j)/2).toNat,O⟩
   have v:(n:Nat)->n<10000->ar (m*n)<=ar m+1:=λn hn=>eh _ _ (Ai hn (dw _))
   have ht:z ((i+j)/2+1)=b+1:=O
   have hx:Iz m R (i,j)=(match a_ (m*(b+1)<=R)with|true=>((i+j)/2+1,j)|false=>(i,(i+j)/2)):=by show(match a_ (m*z ((i+j)/2+1)<=R)with|true=>((i+j)/2+1,j)|false=>(i,(i+j)/2))=_;rw[ht]
   rw[ht]
   have f:=v (b+1) O
   have key:m*(b+1)<=R↔b<R/m:=by rw[C_,<-r_ e];rfl
   refine Ze (aq O O) (Ze (aq O O) (Ze (aq O O) (Ze ?_ (Ze (mO _ _) (Ze ?_ (Zh (λc=>Ze (aq O O) ?_) λc=>?_))))))
   ·rw[cM];simp only[c_,bf,bn,x_];omega
   ·rw[cM,cM];rw[bf,bf];exact⟨ZD,kV O⟩
   ·simp only[y_,iK,rA]at c
    have d:a_ (m*(b+1)<=R)=true:=Y
    have w:b<R/m:=key.1 O
    rw[d]at hx
    refine YG A ⟨Zj λ_ _=>cn _ _ _,rfl,rfl,YG A ⟨Zj λ_ _=>cn _ _ _,YG A ⟨dG _ _,YG A ⟨Zj λ_ _=>cn _ _ _,YG A (YG A (YG A ⟨Zj λ_ _=>cn _ _ _,Zf Y (Zf (congrArg Prod.snd hx).symm ⟨?_,?_,rfl⟩)⟩))⟩⟩⟩⟩
    all_goals grind
   ·simp only[v_,bn,rA]at c
    have d:a_ (m*(b+1)<=R)=false:=Y
    have w :¬ b<R/m:=O
    rw[d]at hx
    refine YG A ⟨Zj λ_ _=>cn _ _ _,rfl,rfl,YG A ⟨Zj λ_ _=>cn _ _ _,YG A ⟨dG _ _,YG A ⟨Zj λ_ _=>cn _ _ _,YG A (YG A (YG A ⟨Zj λ_ _=>cn _ _ _,Zf Y (Zf (congrArg Prod.snd hx).symm ⟨?_,?_,rfl⟩)⟩))⟩⟩⟩⟩
    all_goals grind
  ·simp only[iK]at h
   refine YG A ⟨Zj λ_ _=>cn _ _ _,rfl,rfl,YG A ⟨Zj λ_ _=>cn _ _ _,YG A ⟨dG _ _,YG A ⟨Zj λ_ _=>cn _ _ _,YG A (YG A (YG A ⟨Zj λ_ _=>cn _ _ _,Zf ?_ trivial⟩))⟩⟩⟩⟩
   grind
def dm(v n):an n (aG v) (aG v):=Zj λ_ _=>cn _ _ _
def sV{k f g}(h:∀i,i<k->f i=g i):cO k f=cO k g/\numOf k f=numOf k g:=by
 have e:kh k f=kh k g:=by
  unfold kh
  refine List.map_congr_left λi hi=>?_
  unfold aM
  rw[h i (List.mem_range.1 hi)]
 refine⟨?_,by unfold numOf;rw[e]⟩
 unfold cO
 grind
def BY{x f}(hx:x<10000):aG (x+10000*f) 0=[.int .i64 (M x)]:=by
 show [d_ _ (M (bF (x+10000*f) 0))]=_
 rw[sS,Nat.add_mul_mod_self_left,Nat.mod_eq_of_lt hx]
def LP{x f i}(hx:x<10000):aG (x+10000*f) (i+1)=aG f i:=by
 show [d_ _ (M (bF (x+10000*f) (i+1)))]=[d_ _ (M (bF f i))]
 rw[sT,Nat.add_mul_div_left _ _ O,A_ hx,n_]
def uU(a n):cO 1 (λi=>e_ 1 (f_ (0+i*1) [d_ .i64 (aO a (z (M n)))]))=true/\numOf 1 (λi=>e_ 1 (f_ (0+i*1) [d_ .i64 (aO a (z (M n)))]))=bF a n:=by
 have hl:=kN a n
 have h:=sV (k:=1) (f:=λi=>e_ 1 (f_ (0+i*1) [d_ .i64 (aO a (z (M n)))])) (g:=aG (bF a n+10000*0)) λi hi=>by
  have:i=0:=O
  subst this
  rw[BY hl];rfl
 rw[h.1,h.2]
 refine⟨cM _ _,kY (eh _ _ ?_)⟩
 omega
def BZ(a n f):cO (1+ar f) (λi=>bif h_ i 1 then e_ 1 (f_ (0+i*1) [d_ .i64 (aO a (z (M n)))])else aG f (i-1))=true/\numOf (1+ar f) (λi=>bif h_ i 1 then e_ 1 (f_ (0+i*1) [d_ .i64 (aO a (z (M n)))])else aG f (i-1))=bF a n+10000*f:=by
 have hl:=kN a n
 have h:=sV (k:=1+ar f) (f:=λi=>bif h_ i 1 then e_ 1 (f_ (0+i*1) [d_ .i64 (aO a (z (M n)))])else aG f (i-1)) (g:=aG (bF a n+10000*f)) λi hi=>by
  cases i with
  |zero=>rw[BY hl];rfl
  |succ i=>rw[LP hl];rfl
 rw[h.1,h.2]
 refine⟨cM _ _,kY (eh _ _ ?_)⟩
 have:=fY f
 grind
def IA(a n f):(p_ (w_ (1+ar f)) (λi=>bt.free (bif h_ i 1 then e_ 1 (f_ (0+i*1) [d_ .i64 (aO a (z (M n)))])else aG f (i-1)))&&a_ (1+ar f<=1+ar f))=true:=by
 rw[bf]
 refine⟨List.all_eq_true.2 λi _=>?_,zA⟩
 cases i with
 |zero=>rfl
 |succ i=>rfl
def sW(a m:Nat)(j:Int):Nat:=sU a m (j+1).toNat
def pO(a m:Nat)(j:Int):Nat:=bF a j.toNat+10000*sW a m j
def P6{a m}(b:0<m)(n):pO a m (M n)/m=bF (a/m) n/\pO a m (M n)-m*(pO a m (M n)/m)=sW a m (M n-1)/\pO a m (M n)<10000*m:=by
 have c:(M n+1).toNat=n+1:=by show((n:Int)+1).toNat=_;omega
 have d:(M n-1+1).toNat=n:=by show((n:Int)-1+1).toNat=_;omega
 have e:pO a m (M n)=bF a n+10000*sU a m (n+1):=by unfold pO sW;rw[c];rfl
 obtain⟨f,g,h⟩:=Io (a:=a) b n
 rw[e]
 refine⟨f,?_,h⟩
 unfold sW
 rw[d,<-g]
 have:=Nat.div_add_mod (bF a n+10000*sU a m (n+1)) m
 omega
def sX{k n V q}(a:q=V n):an k (λi=>[d_ .i64 (bif a_ (i=0+z (M n))then q else qW V (M n) i)]) (ae (qW V (M n-1))):=λi _ σ=>by
 have e:(bif a_ (i=0+z (M n))then q else qW V (M n) i)=qW V (M n-1) i:=by
  have b:(M n+1).toNat=n+1:=by show((n:Int)+1).toNat=_;omega
  have c:(M n-1+1).toNat=n:=by show((n:Int)-1+1).toNat=_;omega
  unfold qW
  rw[b,c,a,n_]
  show(bif a_ (i=n)then V n else _)=_
  by_cases h:i=n
  ·subst h
   have:h_ i i=false:=by rw[Bool.eq_false_iff];intro e;rw[l_]at e;omega
   grind
  ·rw[nZ h,cond_false]
   have:h_ i (n+1)=h_ i n:=by
    rw[Bool.eq_iff_iff,l_,l_];omega
   rw[this]
 show bt.le σ [d_ .i64 (bif a_ (i=0+z (M n))then q else qW V (M n) i)] (ae (qW V (M n-1)) i)
 rw[e]
 exact ep _ _ _
set_option maxHeartbeats 2000000 in
def IB{k m a:Nat}(r:0<m)(ha:ar a<=k)(L:k<=80000)(f:ar m<=80000):aE PP II false (aD II 212 1002) 19 (Ev k m a (aO (a/m)) (sW a m) (false,M k-1)) (Ew k m a (aO (a/m)) (sW a m)):=
 aE.Vk (ι:=Bool×Int) iw [tS,Aj,SD] 1000 (λp=>TQ k m a (pO a m p.2) (qW (aO (a/m)) p.2) (M (pO a m p.2/m))) 19 (λp=> -1<=p.2/\p.2<M k/\(p.1=false->p.2=M k-1)/\(p.1=true->0<k)) (Ev k m a (aO (a/m)) (sW a m)) (λ_=>Ew k m a (aO (a/m)) (sW a m)) (λp=>(p.2+1).toNat) (λp=>(true,p.2-1)) (false,M k-1) A
  ⟨by show -1<=(k:Int)-1;omega,by show(k:Int)-1<(k:Int);omega,λ_=>rfl,λh=>zE⟩ λp E=>by
  obtain⟨b,j⟩:=p
  obtain⟨F,d,C,G⟩:=E
  change -1<=j at F
  change j<M k at d
  by_cases o:0<=j
  ·obtain⟨n,rfl⟩:∃n:Nat,j=M n:=⟨j.toNat,(Int.toNat_of_nonneg o).symm⟩
   obtain⟨g,c,l⟩:=P6 (a:=a) r n
   have x:M (pO a m (M n)/m)=aO (a/m) n:=by rw[g];rfl
   have s:=kN (a/m) n
   have H:pO a m (M n)/m<10000:=by rw[g];exact s
   have I:ar (pO a m (M n))<=80001:=by
    refine i_ (eh (ar m+1) _ ?_) O
    have:=fY m
    rw[Nat.pow_succ];omega
   have D:a_ (0+z (M n)=0+z (M n))=true:=bW A
   have t:z (M (pO a m (M n)/m))=pO a m (M n)/m:=rfl
   have u:(a_ (0<=M n)&&a_ (M n<M k))=true:=nM o d
   cases b with
   |false=>
    have y:sW a m (M n)=0:=by
     unfold sW
     rw[show(M n+1).toNat=k by have:=C A;change M n=(k:Int)-1 at this;omega]
     unfold sU
     rw[A_ (cN.1 ha),D_]
    have v:bF a n=pO a m (M n):=by unfold pO;rw[y];rfl
    refine(wj k m a (pO a m (M n)) (aO (a/m)) (sW a m) (M (pO a m (M n)/m)) (M n) _ A A A A A).mpr ?_
    rw[(uU a n).1,(uU a n).2,D,cond_true,bZ m,bZ (pO a m (M n)),t,bZ (m*(pO a m (M n)/m)),v]
    refine Zh (λ_=>Ze u (Ze A ⟨BX r l f,YG A ⟨dm _ _,rfl,rfl,YG A ⟨dm _ _,YG A ⟨dG _ _,YG A ⟨dm _ _,YG A (YG A (YG A ⟨dm _ _,?_⟩))⟩⟩⟩⟩⟩)) (λh=>absurd o (of_decide_eq_false h))
    have e:(a_ (0<=M n)&&a_ (M n<M k))=true:=nM (b_ n) d
    have hn:a_ (0+z (M n)<k)=true:=bW (by show 0+n<k;have:(n:Int)<(k:Int):=d;omega)
    refine Ze zA (Ze e (Ze hn (Ze e (Ze hn (Ze ?_ (Ze (mO _ _) (Ze ?_ (Ze (aq (by show _<=(n:Int)-1;omega) (by have:(n:Int)<(k:Int):=d;show(n:Int)-1<=_;omega)) ⟨rfl,rfl,YG A ⟨dm _ _,YG A ⟨sX x,YG (by rw[c]) ⟨by rw[c];exact dm _ _,YG A (YG A (YG A ⟨dm _ _,Zf A ⟨⟨by show -1<=(n:Int)-1;omega,by have:(n:Int)<(k:Int):=d;show(n:Int)-1<(k:Int);omega,(λh=>zE),λ_=>by have:(n:Int)<(k:Int):=d;omega⟩,by show((n:Int)-1+1).toNat<((n:Int)+1).toNat;omega,rfl⟩⟩))⟩⟩⟩⟩))))))))
    ·rw[cM,c_,bf];exact⟨nM (b_ _) zQ,kV O⟩
    ·rw[cM,cM,c_,bf,bf];exact⟨⟨rfl,kV (m_ _ _)⟩,kV O⟩
   |true=>
    refine(wk k m a (pO a m (M n)) (aO (a/m)) (sW a m) (M (pO a m (M n)/m)) (M n) _ A A A A).mpr ?_
    have J:ar (sW a m (M n))<=80000:=i_ (mI (Nat.le_of_lt (Nat.mod_lt _ r))) f
    rw[(uU a n).1,(uU a n).2,(BZ a n (sW a m (M n))).1,(BZ a n (sW a m (M n))).2,IA,D,cond_true,bZ m,bZ (pO a m (M n)),t,bZ (m*(pO a m (M n)/m))]
    refine Zh (λ_=>Ze u (Ze (by rw[bW (O:(1+ar (sW a m (M n)))*8<=140737488355328)];rfl) (Zh (λq=>?_) λ_=>?_))) (λh=>absurd o (of_decide_eq_false h))
    ·have y:sW a m (M n)=0:=by
      have q:=pT q
      have:=fY (sW a m (M n))
      rw[q]at this
      simpa using this
     have v:bF a n=pO a m (M n):=by unfold pO;rw[y];rfl
     rw[v]
     refine Ze A ⟨BX r l f,YG A ⟨dm _ _,rfl,rfl,YG A ⟨dm _ _,YG A ⟨dG _ _,YG A ⟨dm _ _,YG A (YG A (YG A ⟨dm _ _,?_⟩))⟩⟩⟩⟩⟩
     have e:(a_ (0<=M n)&&a_ (M n<M k))=true:=nM (b_ n) d
     have hn:a_ (0+z (M n)<k)=true:=bW (by show 0+n<k;have:(n:Int)<(k:Int):=d;omega)
     refine Ze zA (Ze e (Ze hn (Ze e (Ze hn (Ze ?_ (Ze (mO _ _) (Ze ?_ (Ze (aq (by show _<=(n:Int)-1;omega) (by have:(n:Int)<(k:Int):=d;show(n:Int)-1<=_;omega)) ⟨rfl,rfl,YG A ⟨dm _ _,YG A ⟨sX x,YG (by rw[c]) ⟨by rw[c];exact dm _ _,YG A (YG A (YG A ⟨dm _ _,Zf A ⟨⟨by show -1<=(n:Int)-1;omega,by have:(n:Int)<(k:Int):=d;show(n:Int)-1<(k:Int);omega,(λh=>zE),λ_=>by have:(n:Int)<(k:Int):=d;omega⟩,by show((n:Int)-1+1).toNat<((n:Int)+1).toNat;omega,rfl⟩⟩))⟩⟩⟩⟩))))))))
     ·rw[cM,c_,bf];exact⟨nM (b_ _) zQ,kV O⟩
     ·rw[cM,cM,c_,bf,bf];exact⟨⟨rfl,kV (m_ _ _)⟩,kV O⟩
    ·have v:bF a n+10000*sW a m (M n)=pO a m (M n):=rfl
     rw[v]
     refine Ze A (Ze (by rw[c_];exact kV O) ⟨LO r l f,YG A ⟨dm _ _,rfl,rfl,YG A ⟨dm _ _,YG A ⟨dG _ _,YG A ⟨dm _ _,YG A (YG A (YG A ⟨dm _ _,?_⟩))⟩⟩⟩⟩⟩)
     have e:(a_ (0<=M n)&&a_ (M n<M k))=true:=nM (b_ n) d
     have hn:a_ (0+z (M n)<k)=true:=bW (by show 0+n<k;have:(n:Int)<(k:Int):=d;omega)
     refine Ze zA (Ze e (Ze hn (Ze e (Ze hn (Ze ?_ (Ze (mO _ _) (Ze ?_ (Ze (aq (by show _<=(n:Int)-1;omega) (by have:(n:Int)<(k:Int):=d;show(n:Int)-1<=_;omega)) ⟨rfl,rfl,YG A ⟨dm _ _,YG A ⟨sX x,YG (by rw[c]) ⟨by rw[c];exact dm _ _,YG A (YG A (YG A ⟨dm _ _,Zf A ⟨⟨by show -1<=(n:Int)-1;omega,by have:(n:Int)<(k:Int):=d;show(n:Int)-1<(k:Int);omega,(λh=>zE),λ_=>by have:(n:Int)<(k:Int):=d;omega⟩,by show((n:Int)-1+1).toNat<((n:Int)+1).toNat;omega,rfl⟩⟩))⟩⟩⟩⟩))))))))
     ·rw[cM,c_,bf];exact⟨nM (b_ _) zQ,kV O⟩
     ·rw[cM,cM,c_,bf,bf];exact⟨⟨rfl,kV (m_ _ _)⟩,kV O⟩
  ·have w:j= -1:=by omega
   have i:an k (ae (qW (aO (a/m)) j)) (ae (qW (aO (a/m)) (-1))):=by rw[w];exact dG _ _
   cases b with
   |false=>
    have q:F_ k 0=true:=by have:=C A;change j=(k:Int)-1 at this;rw[Nat.beq_eq];omega
    refine(wj k m a (pO a m j) (aO (a/m)) (sW a m) (M (pO a m j/m)) j _ A A A A A).mpr ?_
    with_reducible refine Zh (λh=>?_) λ_=>Zh (λ_=>?_) λh=>?_
    ·exact absurd (pT h) o
    ·exact⟨rfl,rfl,YG A ⟨dm _ _,YG A ⟨i,YG A (YG A (YG A ⟨dm _ _,trivial⟩))⟩⟩⟩
    ·rw[q]at h;cases h
   |true=>
    have q:=G A
    have K:sW a m j=sW a m (-1):=by rw[w]
    refine(wk k m a (pO a m j) (aO (a/m)) (sW a m) (M (pO a m j/m)) j _ A A A A).mpr ?_
    rw[K]
    with_reducible refine Zh (λh=>?_) λ_=>Zh (λh=>?_) λ_=>?_
    ·exact absurd (pT h) o
    ·have:=dE h
     omega
    ·exact⟨rfl,rfl,YG A ⟨dm _ _,YG A ⟨i,YG A ⟨dm _ _,YG A (YG A (YG A ⟨dm _ _,trivial⟩))⟩⟩⟩⟩
def af.TR{P I}(hI:I.Ok P)(ks:List (aC P I)){d}(b:eR P I id d)(fuel){f args a'}
  (h:jE ks d fuel f args (g_ I.G) (fk I.G λa=> ∀σ,B_ σ a a') (λ_ _=>False)):af P I f args (g_ I.G) (.ret a' (g_ I.G)):=by
 obtain⟨o,i,j⟩:=fJ hI ks b fuel f args (g_ I.G) _ _ h
 cases o with
 |ret a H1=>
  obtain⟨x,H2,k1,k2⟩:=lm RI.dJ _ _ _ _ i
  cases c:o_ I.G H2.n with
  |false=>
   have k1:B (o_ I.G H2.n) (∀σ,B_ σ x a'):=k1
   rw[c]at k1;exact k1.elim
  |true=>
   have k1:B (o_ I.G H2.n) (∀σ,B_ σ x a'):=k1
   rw[c]at k1
   have k1:∀σ,B_ σ x a':=k1
   exact(j.vW k2).le (ky.of [] (im.of (by rfl) A A A c (gS.2 λ_ _=>trivial)) (k1 _))
 |qt a H1=>exact i.elim
def Al{ks T f args a'}(h:kb ks T f args (λa=> ∀σ,B_ σ a a')):af PP II f args (g_ 12) (.ret a' (g_ 12)):=
 af.TR iw ks (bm PP II T) 1000 h
def jm(v:Nat):AV:=.ab (ar v) 1 (aG v)
def mP(σ)(v):B_ σ (jm v) (jm v):=⟨rfl,rfl,λ_ _=>cn _ _ _⟩
def GH{a m k:Nat}(j:0<m)(ha:ar a<=k)(l:k<=80000)(c:ar m<=80000):af PP II 107 [.ab k 1 (aG a),.ab (ar m) 1 (aG m)] (g_ 12) (.ret (.bK [jm (a/m),jm (a%m)]) (g_ 12)):=by
 refine Al (T:=[(1002,19,Ev k m a (aO (a/m)) (sW a m) (false,M k-1),Ew k m a (aO (a/m)) (sW a m))]) ((P5 k m a (aO (a/m)) (sW a m) _ A A A A).mpr ?_)
 have n:ar (a/m)<=k:=i_ (mI (Nat.div_le_self a m)) ha
 have e:=sV (k:=k) (f:=λi=>ae (qW (aO (a/m)) (-1)) (0+i)) (g:=aG (a/m)) λi _=>by
  show [d_ _ (qW (aO (a/m)) (-1) (0+i))]=[d_ _ (aO (a/m) i)]
  rw[n_];rfl
 rw[e.1,e.2,cM,kY n]
 have o:sW a m (-1)=a%m:=by show sU a m 0=_;unfold sU;rw[Nat.pow_zero,Nat.div_one]
 rw[o]
 have all:∀(k:Nat),(p_ (w_ k) λ_=>true)=true:=zA
 have b:(a_ (ar (a%m)=ar (a%m))&&true&&p_ (w_ (ar (a%m))) λi=>a_ (aO (a%m) i=aO (a%m) i)&&true)=true:=zA
 refine Ze (by simp only[bf,bn,iH,x_];grind) (Ze (aq Y Y) ⟨IB j ha l c,rfl,rfl,YG A ⟨dm _ _,YG A ⟨?_,YG A (YG A (YG A ⟨dm _ _,Zf A (Zh (λh=>?_) λ_=>?_)⟩))⟩⟩⟩)
 ·intro i hi σ
  have hi:i<k:=hi
  show bt.le σ [d_ .i64 0] [d_ .i64 (qW (aO (a/m)) (M k-1) i)]
  have p:(M k-1+1).toNat=k:=by show((k:Int)-1+1).toNat=_;omega
  have:qW (aO (a/m)) (M k-1) i=0:=by
   unfold qW
   rw[p,show h_ i k=true by simp_all]
  rw[this]
  exact⟨⟨rfl,rfl⟩,trivial⟩
 ·have q:k=0:=dE h
  have d:a=0:=by have:=cN.1 (O:ar a<=0);simpa using this
  refine Ze (dZ (all _) (bW O)) (Ze (dZ A (kV O)) λσ=>⟨mP σ _,?_,trivial⟩)
  show ar (a%m)=0
  rw[d,D_,eS]
 ·exact Ze (dZ (all _) (bW O)) (Ze (dZ A (kV O)) (Ze b (Ze b λσ=>⟨mP σ _,mP σ _,trivial⟩)))
def WC:aC PP II:=aC.pure 107
 (λX args a=>match args with
  |[.ab k 1 f,.ab m 1 g]=>X.ak (cO k f&&cO m g&&h_ 0 (numOf m g)&&F_ m (ar (numOf m g))&&o_ k 80000&&o_ m 80000) (a (.bK [jm (numOf k f/numOf m g),jm (numOf k f%numOf m g)]))
  |_=>X.fail)
 λX sem hX args a h=>by
  split at h
  ·rename_i k f m g
   obtain⟨b,c⟩:=hX.ak _ _ h
   simp only[bf]at b
   obtain⟨⟨⟨⟨⟨a1,a2⟩,d⟩,a4⟩,e⟩,i⟩:=b
   have j:0<numOf m g:=by rwa[l_]at d
   have l:=dE a4
   have n:=jX i
   refine⟨_,c,λ_=>rfl,λ_=>rfl,?_⟩
   have l2:=gT a2
   exact(GH (m:=numOf m g) j (eh _ _ (j7 a1).1) (jX e) O).dq ⟨gT a1,⟨l,rfl,l2.2.2⟩,trivial⟩
  ·exact zR
def Rel.under{c ρ H w w'}(h:Rel c ρ H w)(k:Go.RowKit.Below w.heap.size w w'):Rel c ρ H w' where
 dF l:=by
  by_cases d:H.get l= .dead
  ·rw[d];trivial
  ·exact bp.world (λr N i=>k.block r (h.lt d i)) (h.dF l)
 sep:=h.sep
 gL:=h.gL
 gH j a:=⟨(h.gH j a).1,(k.block j (Nat.lt_of_lt_of_le (h.gH j a).1 h.size)).trans (h.gH j a).2⟩
 size:=i_ h.size k.size
 os:=k.os.trans h.os
 output:=k.output.trans h.output
 tape:=k.tape.trans h.tape
 top:=h.top
 fp:=h.fp
 hid:=h.hid
 env:=h.env
 low:=h.low
 qY b vs m:=by
  obtain⟨el,fr,f⟩:=h.qY b vs m
  exact⟨el,fr,(k.block b (Array.getElem?_eq_some_iff.1 f).1).trans f⟩
 pV:=h.pV
 xw:=h.xw
 qZ:=h.qZ
def af.oB{P I f args a H}(d:∀(vs)(w),(callFunc f vs).run P w= .ok (.enter f vs) w)
  (h:∀c ρ w vs,c.G=I.G->aU ρ args vs->Rel c ρ H w->Calls P f vs.toArray w λe w'=> ∃v,e= .returned v/\VR ρ a v/\Go.RowKit.Below w.heap.size w w'):af P I f args H (.ret a H):=by
 intro c ρ w vs hG i b
 refine .inl ⟨d _ _,(h c ρ w vs hG i b).mono ?_⟩
 rintro e w' ⟨v,rfl,h1,j⟩
 exact⟨ρ,Ext.refl ρ,b.under j,h1⟩
end
end Go.Sx
