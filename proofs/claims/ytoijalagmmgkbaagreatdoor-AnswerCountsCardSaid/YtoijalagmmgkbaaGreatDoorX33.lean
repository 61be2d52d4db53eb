/- The proof of a statement of the seat, part 33. -/
import Derived.Test.YtoijalagmmgkbaaGreatDoorX32
set_option linter.all false
set_option linter.defProp false
set_option maxRecDepth 1000000
namespace Go.Sx
open Go
open Decidable renaming decide->M
open Int renaming ofNat->z,toNat->F_
open List renaming range->a_,getD_eq_getElem?_getD->c_,filter_append->f_,beq->m_,range_succ_eq_map->n_,length_append->p_,filter_cons->q_,getElem_mem->r_,all_eq_true->s_,take->u_,drop->v_,range_succ->w_,range_add->A_,map_cons->B_,all->E_
open Nat renaming zero_le->b_,blt->h_,beq->i_,ble->o_,add_zero->D_
open Go.IntKind renaming i64->d_
open AV renaming str->e_,int->t_,le->x_,bool->y_,ab->C_
open AH renaming blank->g_
open Prod renaming fst->j_,snd->k_
open Tr renaming ofList->l_
noncomputable section
section
open Go.Sort Go.Shelf Go.Proofs
def aP(p:Nat->Bool)(k:Nat):Nat:=((a_ k).filter p).length
def bS(p:Nat->Bool)(W:Nat->Int)(k j:Nat):Int:=(((a_ k).filter p).map W).getD j 0
def iE{p:Nat->Bool}{m:Nat}(h:p m=true):aP p (m+1)=aP p m+1:=by
 unfold aP;rw[w_,f_,p_];simp[h]
def kO{p:Nat->Bool}{m:Nat}(h:p m=false):aP p (m+1)=aP p m:=by
 unfold aP;rw[w_,f_,p_];simp[h]
def jV(p:Nat->Bool)(k:Nat):aP p k<=k:=by
 unfold aP
 exact Nat.le_trans (List.length_filter_le _ _) zA
def mU(p:Nat->Bool):∀k,aP p k+aP (λi=>!p i) k=k
 |0=>rfl
 |k+1=>by
  have a:=mU p k
  cases h:p k with
  |true=>rw[iE h,kO (p:=λi=>!p i) (by show(!p k)=false;rw[h];rfl)];omega
  |false=>rw[kO h,iE (p:=λi=>!p i) (by show(!p k)=true;rw[h];rfl)];omega
def rR{p:Nat->Bool}{W:Nat->Int}{k m:Nat}(a:m<k)(h:p m=true):bS p W k (aP p m)=W m:=by
 unfold bS aP
 obtain⟨r,rfl⟩:∃r,k=m+(r+1):=⟨k-m-1,O⟩
 rw[A_,n_,B_,f_,q_,D_,h]
 simp[c_]
def Ny{p:Nat->Bool}{W:Nat->Int}{k j:Nat}(a:j<aP p k):∃m,m<k/\bS p W k j=W m:=by
 unfold bS
 rw[c_,mo (by simpa [aP]using a)]
 have:(((a_ k).filter p).map W)[j]'(by simpa [aP]using a)∈((a_ k).filter p).map W:=r_ _
 obtain⟨m,b,c⟩:=List.mem_map.1 this
 exact⟨m,List.mem_range.1 (List.mem_filter.1 b).1,c.symm⟩
def CQ{p:Nat->Bool}{k:Nat}(h:(a_ k).any p=true):0<aP p k:=by
 obtain⟨m,a,b⟩:=List.any_eq_true.1 h
 exact List.length_pos_iff.2 (List.ne_nil_of_mem (List.mem_filter.2 ⟨a,b⟩))
def Fp{k:Nat}{W:Nat->Int}{i:Nat}(hi:i<k):∃j,j<k/\cK k W i=W j:=by
 have b:=nR (ltOf pP) k W
 have:cK k W i∈dp (ltOf pP) k W:=by
  unfold cK
  rw[c_,mo O]
  exact r_ _
 unfold dp at this
 rw[List.mem_mergeSort]at this
 obtain⟨j,a,e⟩:=List.mem_map.1 this
 exact⟨j,List.mem_range.1 a,e.symm⟩
def fA(W:Nat->Int)(k:Nat):Prop := ∀i,i<k->0<=W i/\W i<=4398046511104
def dn{k:Nat}{W:Nat->Int}(a:k<=1000)(h:fA W k):bX k W=true:=by
 unfold bX
 rw[kV a,Bool.true_and,s_]
 intro i hi
 obtain⟨b,c⟩:=h i (List.mem_range.1 hi)
 simp only[bf,bn]
 exact⟨b,c⟩
def fR{p:Nat->Bool}{W:Nat->Int}{k:Nat}(h:fA W k):fA (bS p W k) (aP p k):=λj a=>by
 obtain⟨m,b,c⟩:=Ny (W:=W) a
 rw[c];exact h m b
def pI{V a:Nat->Int}{n m:Nat}(b:fA V n)(c:fA a m):fA (jB n V a) (n+m):=λi hi=>by
 show 0<=(bif h_ i n then V i else a (i-n))/\(bif h_ i n then V i else a (i-n))<=_
 by_cases h:i<n
 ·rw[eV h];exact b i h
 ·rw[js h];exact c (i-n) O
def aS(better:Int->Bool)(R:Nat->List UInt8×List UInt8):Nat->List UInt8×List UInt8
 |0=>R 0
 |i+1=>match better (bw (ao (R (i+1)).1) (ao (R (i+1)).2) (ao (aS better R i).1) (ao (aS better R i).2))with
  |true=>R (i+1)
  |false=>aS better R i
def eK{better:Int->Bool}{R:Nat->List UInt8×List UInt8}:∀i,∃j,j<=i/\aS better R i=R j
 |0=>⟨0,dw _,rfl⟩
 |i+1=>by
  obtain⟨j,a,e⟩:=eK (better:=better) (R:=R) i
  show ∃j,j<=i+1/\(match better _ with|true=>R (i+1)|false=>aS better R i)=R j
  split
  ·exact⟨i+1,dw _,rfl⟩
  ·exact⟨j,O,e⟩
def bN(q:Query)(b:Nat)(V a:Nat->Int):Nat->List UInt8×List UInt8
 |0=>(c8 q b V,da q b V)
 |i+1=>(c8 q (b+(i+1)) (jB b V a),da q (b+(i+1)) (jB b V a))
def br(q:Query)(a:Nat->Int):Nat->List UInt8×List UInt8
 |0=>(c8 q 0 λ_=>0,da q 0 λ_=>0)
 |i+1=>(c8 q (i+1) a,da q (i+1) a)
def eO(q:Query)(k:Nat)(W:Nat->Int)(C:Nat->Bool):List UInt8×List UInt8:=match(a_ k).any C with
 |true=>aS (λc=>M (c<0)) (bN q (aP C k) (bS C W k) (bQ (aP (λi=>!C i) k) (bS (λi=>!C i) W k))) (aP (λi=>!C i) k)
 |false=>aS (λc=>M (c<0)) (br q (bQ k W)) k
def kP{W:Nat->Int}{k:Nat}(h:fA W k):fA (bQ k W) k:=λi hi=>by
 obtain⟨j,a,e⟩:=qI (W:=W) hi
 rw[e];exact h j a
def CR(q:Query)(k:Nat)(L G:Nat->Int)(C:Nat->Bool)(f:k<=1000):aE PP II false (aD II 96 3001) 16 (pQ 97 98 99 q k L G C (λi=>aP C i.toNat) (λi=>aP (λi=>!C i) i.toNat) (bS C L k) (bS (λi=>!C i) L k) 0) (pR 97 98 99 q (aP C k) (aP (λi=>!C i) k) (bS C L k) (bS (λi=>!C i) L k)):=by
 have key:=aE.of (ι:=Nat) iw [fS,cw,cu,bR,mR,fO] (bm PP II []) 1000 (c:=aD II 96 3001) (ir:=false) 16 (λi=>i<=k) (λi=>pQ 97 98 99 q k L G C (λi=>aP C i.toNat) (λi=>aP (λi=>!C i) i.toNat) (bS C L k) (bS (λi=>!C i) L k) (i:Int)) (λ_=>pR 97 98 99 q (aP C k) (aP (λi=>!C i) k) (bS C L k) (bS (λi=>!C i) L k)) (λi=>k-i) (λi=>i+1) 0 A (b_ _) λi hi=>?_
 ·exact key
 have hi:i<=k:=hi
 have b:((i:Int)).toNat=i:=O
 have d:((i:Int)+1).toNat=i+1:=O
 by_cases a:i<k
 ·have l1:=jV C i
  have l2:=jV (λi=>!C i) i
  refine CL q k L G C _ _ _ _ _ _ (i:Int) i A a f ?_ ?_ (λh=>?_) (λh=>?_) _ ⟨a,O,rfl⟩
  ·show aP C ((i:Int)).toNat<=1000
   rw[b];omega
  ·show aP (λi=>!C i) ((i:Int)).toNat<=1000
   rw[b];omega
  ·show aP C ((i:Int)+1).toNat=aP C ((i:Int)).toNat+1/\bS C L k (aP C ((i:Int)).toNat)=L i/\aP (λi=>!C i) ((i:Int)+1).toNat=aP (λi=>!C i) ((i:Int)).toNat
   rw[b,d]
   exact⟨iE h,rR a h,kO (p:=λi=>!C i) (by show(!C i)=false;rw[h];rfl)⟩
  ·have e:(λi=>!C i) i=true:=by show(!C i)=true;rw[h];rfl
   show aP (λi=>!C i) ((i:Int)+1).toNat=aP (λi=>!C i) ((i:Int)).toNat+1/\bS (λi=>!C i) L k (aP (λi=>!C i) ((i:Int)).toNat)=L i/\aP C ((i:Int)+1).toNat=aP C ((i:Int)).toNat
   rw[b,d]
   exact⟨iE e,rR a e,kO h⟩
 ·have hi:i=k:=by omega
  subst hi
  refine Jq q i L G C _ _ _ _ _ _ (i:Int) A ?_ ?_ _
  ·show aP C ((i:Int)).toNat=_
   rw[b]
  ·show aP (λi=>!C i) ((i:Int)).toNat=_
   rw[b]
def AU(q:Query)(k:Nat)(L G:Nat->Int)(b:k<=1000):aE PP II false (aD II 96 3001) 16 (kB 97 98 99 q k L G 0) (kC 97 98 99 q k L):=by
 have key:=aE.of (ι:=Nat) iw [fS,cw,cu,bR,mR,fO] (bm PP II []) 1000 (c:=aD II 96 3001) (ir:=false) 16 (λi=>i<=k) (λi=>kB 97 98 99 q k L G (i:Int)) (λ_=>kC 97 98 99 q k L) (λi=>k-i) (λi=>i+1) 0 A (b_ _) λi hi=>?_
 ·exact key
 have hi:i<=k:=hi
 by_cases a:i<k
 ·exact AQ q k L G (i:Int) i A a b _ ⟨a,O,rfl⟩
 ·have hi:i=k:=by omega
  subst hi
  exact Fk q i L G (i:Int) A _
def CS(q:Query)(b d:Nat)(V a:Nat->Int)(p:0<b)(r:aI 3 q.nw (au q.C)=true)(s:aI 1 q.ng (aR q.G)=true)(k:eU q=true)(t:b+d<=1000)(l:fA V b)(u:fA a d):
  aE PP II false (aD II 96 12001) 19 (kD 97 98 99 q b d V a (λi=>(aS (λc=>M (c<0)) (bN q b V a) i.toNat).1) (λi=>(aS (λc=>M (c<0)) (bN q b V a) i.toNat).2) 0) (kE 97 98 99 q (aS (λc=>M (c<0)) (bN q b V a) d).1 (aS (λc=>M (c<0)) (bN q b V a) d).2):=by
 have m:=dn t (pI l u)
 have v:∀i,i<=d->bJ (bN q b V a i).1 (bN q b V a i).2=true:=λi hi=>by
  cases i with
  |zero=>exact cz (dn O l) k
  |succ i=>exact cz (dD m O) k
 have w:∀i,i<=d->bJ (aS (λc=>M (c<0)) (bN q b V a) i).1 (aS (λc=>M (c<0)) (bN q b V a) i).2=true:=λi hi=>by
  obtain⟨j,x,e⟩:=eK (better:=λc=>M (c<0)) (R:=bN q b V a) i
  rw[e];exact v j O
 have n:∀i,(aS (λc=>M (c<0)) (bN q b V a) (i+1))=match M (bw (ao (c8 q (b+(i+1)) (jB b V a))) (ao (da q (b+(i+1)) (jB b V a))) (ao (aS (λc=>M (c<0)) (bN q b V a) i).1) (ao (aS (λc=>M (c<0)) (bN q b V a) i).2)<0)with|true=>(c8 q (b+(i+1)) (jB b V a),da q (b+(i+1)) (jB b V a))|false=>aS (λc=>M (c<0)) (bN q b V a) i:=λi=>rfl
 generalize aS (λc=>M (c<0)) (bN q b V a)=Z at*
 have key:=aE.of (ι:=Nat) iw [fS,cw,cu,bR,mR,fO] (bm PP II []) 1000 (c:=aD II 96 12001) (ir:=false) 19 (λi=>i<=d) (λi=>kD 97 98 99 q b d V a (λi=>(Z i.toNat).1) (λi=>(Z i.toNat).2) (i:Int)) (λ_=>kE 97 98 99 q (Z d).1 (Z d).2) (λi=>d-i) (λi=>i+1) 0 A (b_ _) λi hi=>?_
 ·exact key
 have hi:i<=d:=hi
 have f:((i:Int)).toNat=i:=O
 have o:((i:Int)+1).toNat=i+1:=O
 by_cases g:i<d
 ·refine AS q b d V a _ _ _ _ (i:Int) i A g p r s k m ?_ (λh=>?_) (λh=>?_) _ ⟨g,O,rfl⟩
  ·show bJ (Z ((i:Int)).toNat).1 (Z ((i:Int)).toNat).2=true
   rw[f];exact w i hi
  ·show(Z ((i:Int)+1).toNat).1=_/\(Z ((i:Int)+1).toNat).2=_
   simp only[f]at h
   rw[o,n,bW h]
   exact⟨rfl,rfl⟩
  ·show(Z ((i:Int)+1).toNat).1=(Z ((i:Int)).toNat).1/\(Z ((i:Int)+1).toNat).2=(Z ((i:Int)).toNat).2
   simp only[f]at h
   rw[f,o,n,nZ h]
   exact⟨rfl,rfl⟩
 ·have hi:i=d:=by omega
  subst hi
  refine Fm q b i V a _ _ _ _ (i:Int) A ?_ _
  show(Z i).1=(Z ((i:Int)).toNat).1/\(Z i).2=(Z ((i:Int)).toNat).2
  rw[f];exact⟨rfl,rfl⟩
def AW(q:Query)(b:Nat)(a:Nat->Int)(o:aI 3 q.nw (au q.C)=true)(p:aI 1 q.ng (aR q.G)=true)(g:eU q=true)(r:b<=1000)(s:fA a b):
  aE PP II false (aD II 96 12001) 18 (kF 97 98 99 q b a (λi=>(aS (λc=>M (c<0)) (br q a) i.toNat).1) (λi=>(aS (λc=>M (c<0)) (br q a) i.toNat).2) 0) (kG 97 98 99 q (aS (λc=>M (c<0)) (br q a) b).1 (aS (λc=>M (c<0)) (br q a) b).2):=by
 have l:=dn r s
 have t:∀i,i<=b->bJ (br q a i).1 (br q a i).2=true:=λi hi=>by
  cases i with
  |zero=>exact cz (k:=0) (W:=λ_=>0) A g
  |succ i=>exact cz (dD l O) g
 have u:∀i,i<=b->bJ (aS (λc=>M (c<0)) (br q a) i).1 (aS (λc=>M (c<0)) (br q a) i).2=true:=λi hi=>by
  obtain⟨j,v,e⟩:=eK (better:=λc=>M (c<0)) (R:=br q a) i
  rw[e];exact t j O
 have m:∀i,(aS (λc=>M (c<0)) (br q a) (i+1))=match M (bw (ao (c8 q (i+1) a)) (ao (da q (i+1) a)) (ao (aS (λc=>M (c<0)) (br q a) i).1) (ao (aS (λc=>M (c<0)) (br q a) i).2)<0)with|true=>(c8 q (i+1) a,da q (i+1) a)|false=>aS (λc=>M (c<0)) (br q a) i:=λi=>rfl
 generalize aS (λc=>M (c<0)) (br q a)=Z at*
 have key:=aE.of (ι:=Nat) iw [fS,cw,cu,bR,mR,fO] (bm PP II []) 1000 (c:=aD II 96 12001) (ir:=false) 18 (λi=>i<=b) (λi=>kF 97 98 99 q b a (λi=>(Z i.toNat).1) (λi=>(Z i.toNat).2) (i:Int)) (λ_=>kG 97 98 99 q (Z b).1 (Z b).2) (λi=>b-i) (λi=>i+1) 0 A (b_ _) λi hi=>?_
 ·exact key
 have hi:i<=b:=hi
 have d:((i:Int)).toNat=i:=O
 have n:((i:Int)+1).toNat=i+1:=O
 by_cases f:i<b
 ·refine xW q b a _ _ _ _ (i:Int) i A f o p g l ?_ (λh=>?_) (λh=>?_) _ ⟨f,O,rfl⟩
  ·show bJ (Z ((i:Int)).toNat).1 (Z ((i:Int)).toNat).2=true
   rw[d];exact u i hi
  ·show(Z ((i:Int)+1).toNat).1=_/\(Z ((i:Int)+1).toNat).2=_
   simp only[d]at h
   rw[n,m,bW h]
   exact⟨rfl,rfl⟩
  ·show(Z ((i:Int)+1).toNat).1=(Z ((i:Int)).toNat).1/\(Z ((i:Int)+1).toNat).2=(Z ((i:Int)).toNat).2
   simp only[d]at h
   rw[d,n,m,nZ h]
   exact⟨rfl,rfl⟩
 ·have hi:i=b:=by omega
  subst hi
  refine CN q i a _ _ _ _ (i:Int) A ?_ _
  show(Z i).1=(Z ((i:Int)).toNat).1/\(Z i).2=(Z ((i:Int)).toNat).2
  rw[d];exact⟨rfl,rfl⟩
def dQ(q:Query)(k:Nat)(W:Nat->Int)(C:Nat->Bool):List UInt8×List UInt8:=match(a_ k).any C with
 |true=>aS (λc=>M (c>0)) (bN q (aP C k) (bS C W k) (cK (aP (λi=>!C i) k) (bS (λi=>!C i) W k))) (aP (λi=>!C i) k)
 |false=>aS (λc=>M (c>0)) (br q (cK k W)) k
def kQ{W:Nat->Int}{k:Nat}(h:fA W k):fA (cK k W) k:=λi hi=>by
 obtain⟨j,a,e⟩:=Fp (W:=W) hi
 rw[e];exact h j a
def CT(q:Query)(k:Nat)(L G:Nat->Int)(C:Nat->Bool)(f:k<=1000):aE PP II false (aD II 96 3001) 16 (pQ 100 101 102 q k L G C (λi=>aP C i.toNat) (λi=>aP (λi=>!C i) i.toNat) (bS C G k) (bS (λi=>!C i) G k) 0) (pR 100 101 102 q (aP C k) (aP (λi=>!C i) k) (bS C G k) (bS (λi=>!C i) G k)):=by
 have key:=aE.of (ι:=Nat) iw [fS,cw,cu,bR,je,fP] (bm PP II []) 1000 (c:=aD II 96 3001) (ir:=false) 16 (λi=>i<=k) (λi=>pQ 100 101 102 q k L G C (λi=>aP C i.toNat) (λi=>aP (λi=>!C i) i.toNat) (bS C G k) (bS (λi=>!C i) G k) (i:Int)) (λ_=>pR 100 101 102 q (aP C k) (aP (λi=>!C i) k) (bS C G k) (bS (λi=>!C i) G k)) (λi=>k-i) (λi=>i+1) 0 A (b_ _) λi hi=>?_
 ·exact key
 have hi:i<=k:=hi
 have b:((i:Int)).toNat=i:=O
 have d:((i:Int)+1).toNat=i+1:=O
 by_cases a:i<k
 ·have l1:=jV C i
  have l2:=jV (λi=>!C i) i
  refine CM q k L G C _ _ _ _ _ _ (i:Int) i A a f ?_ ?_ (λh=>?_) (λh=>?_) _ ⟨a,O,rfl⟩
  ·show aP C ((i:Int)).toNat<=1000
   rw[b];omega
  ·show aP (λi=>!C i) ((i:Int)).toNat<=1000
   rw[b];omega
  ·show aP C ((i:Int)+1).toNat=aP C ((i:Int)).toNat+1/\bS C G k (aP C ((i:Int)).toNat)=G i/\aP (λi=>!C i) ((i:Int)+1).toNat=aP (λi=>!C i) ((i:Int)).toNat
   rw[b,d]
   exact⟨iE h,rR a h,kO (p:=λi=>!C i) (by show(!C i)=false;rw[h];rfl)⟩
  ·have e:(λi=>!C i) i=true:=by show(!C i)=true;rw[h];rfl
   show aP (λi=>!C i) ((i:Int)+1).toNat=aP (λi=>!C i) ((i:Int)).toNat+1/\bS (λi=>!C i) G k (aP (λi=>!C i) ((i:Int)).toNat)=G i/\aP C ((i:Int)+1).toNat=aP C ((i:Int)).toNat
   rw[b,d]
   exact⟨iE e,rR a e,kO h⟩
 ·have hi:i=k:=by omega
  subst hi
  refine Jr q i L G C _ _ _ _ _ _ (i:Int) A ?_ ?_ _
  ·show aP C ((i:Int)).toNat=_
   rw[b]
  ·show aP (λi=>!C i) ((i:Int)).toNat=_
   rw[b]
def AX(q:Query)(k:Nat)(L G:Nat->Int)(b:k<=1000):aE PP II false (aD II 96 3001) 16 (kB 100 101 102 q k L G 0) (kC 100 101 102 q k G):=by
 have key:=aE.of (ι:=Nat) iw [fS,cw,cu,bR,je,fP] (bm PP II []) 1000 (c:=aD II 96 3001) (ir:=false) 16 (λi=>i<=k) (λi=>kB 100 101 102 q k L G (i:Int)) (λ_=>kC 100 101 102 q k G) (λi=>k-i) (λi=>i+1) 0 A (b_ _) λi hi=>?_
 ·exact key
 have hi:i<=k:=hi
 by_cases a:i<k
 ·exact AR q k L G (i:Int) i A a b _ ⟨a,O,rfl⟩
 ·have hi:i=k:=by omega
  subst hi
  exact Fl q i L G (i:Int) A _
def CU(q:Query)(b d:Nat)(V a:Nat->Int)(p:0<b)(r:aI 3 q.nw (au q.C)=true)(s:aI 1 q.ng (aR q.G)=true)(k:eU q=true)(t:b+d<=1000)(l:fA V b)(u:fA a d):
  aE PP II false (aD II 96 12001) 19 (kD 100 101 102 q b d V a (λi=>(aS (λc=>M (c>0)) (bN q b V a) i.toNat).1) (λi=>(aS (λc=>M (c>0)) (bN q b V a) i.toNat).2) 0) (kE 100 101 102 q (aS (λc=>M (c>0)) (bN q b V a) d).1 (aS (λc=>M (c>0)) (bN q b V a) d).2):=by
 have m:=dn t (pI l u)
 have v:∀i,i<=d->bJ (bN q b V a i).1 (bN q b V a i).2=true:=λi hi=>by
  cases i with
  |zero=>exact cz (dn O l) k
  |succ i=>exact cz (dD m O) k
 have w:∀i,i<=d->bJ (aS (λc=>M (c>0)) (bN q b V a) i).1 (aS (λc=>M (c>0)) (bN q b V a) i).2=true:=λi hi=>by
  obtain⟨j,x,e⟩:=eK (better:=λc=>M (c>0)) (R:=bN q b V a) i
  rw[e];exact v j O
 have n:∀i,(aS (λc=>M (c>0)) (bN q b V a) (i+1))=match M (bw (ao (c8 q (b+(i+1)) (jB b V a))) (ao (da q (b+(i+1)) (jB b V a))) (ao (aS (λc=>M (c>0)) (bN q b V a) i).1) (ao (aS (λc=>M (c>0)) (bN q b V a) i).2)>0)with|true=>(c8 q (b+(i+1)) (jB b V a),da q (b+(i+1)) (jB b V a))|false=>aS (λc=>M (c>0)) (bN q b V a) i:=λi=>rfl
 generalize aS (λc=>M (c>0)) (bN q b V a)=Z at*
 have key:=aE.of (ι:=Nat) iw [fS,cw,cu,bR,je,fP] (bm PP II []) 1000 (c:=aD II 96 12001) (ir:=false) 19 (λi=>i<=d) (λi=>kD 100 101 102 q b d V a (λi=>(Z i.toNat).1) (λi=>(Z i.toNat).2) (i:Int)) (λ_=>kE 100 101 102 q (Z d).1 (Z d).2) (λi=>d-i) (λi=>i+1) 0 A (b_ _) λi hi=>?_
 ·exact key
 have hi:i<=d:=hi
 have f:((i:Int)).toNat=i:=O
 have o:((i:Int)+1).toNat=i+1:=O
 by_cases g:i<d
 ·refine AT q b d V a _ _ _ _ (i:Int) i A g p r s k m ?_ (λh=>?_) (λh=>?_) _ ⟨g,O,rfl⟩
  ·show bJ (Z ((i:Int)).toNat).1 (Z ((i:Int)).toNat).2=true
   rw[f];exact w i hi
  ·show(Z ((i:Int)+1).toNat).1=_/\(Z ((i:Int)+1).toNat).2=_
   simp only[f]at h
   rw[o,n,bW h]
   exact⟨rfl,rfl⟩
  ·show(Z ((i:Int)+1).toNat).1=(Z ((i:Int)).toNat).1/\(Z ((i:Int)+1).toNat).2=(Z ((i:Int)).toNat).2
   simp only[f]at h
   rw[f,o,n,nZ h]
   exact⟨rfl,rfl⟩
 ·have hi:i=d:=by omega
  subst hi
  refine Fo q b i V a _ _ _ _ (i:Int) A ?_ _
  show(Z i).1=(Z ((i:Int)).toNat).1/\(Z i).2=(Z ((i:Int)).toNat).2
  rw[f];exact⟨rfl,rfl⟩
def AY(q:Query)(b:Nat)(a:Nat->Int)(o:aI 3 q.nw (au q.C)=true)(p:aI 1 q.ng (aR q.G)=true)(g:eU q=true)(r:b<=1000)(s:fA a b):
  aE PP II false (aD II 96 12001) 18 (kF 100 101 102 q b a (λi=>(aS (λc=>M (c>0)) (br q a) i.toNat).1) (λi=>(aS (λc=>M (c>0)) (br q a) i.toNat).2) 0) (kG 100 101 102 q (aS (λc=>M (c>0)) (br q a) b).1 (aS (λc=>M (c>0)) (br q a) b).2):=by
 have l:=dn r s
 have t:∀i,i<=b->bJ (br q a i).1 (br q a i).2=true:=λi hi=>by
  cases i with
  |zero=>exact cz (k:=0) (W:=λ_=>0) A g
  |succ i=>exact cz (dD l O) g
 have u:∀i,i<=b->bJ (aS (λc=>M (c>0)) (br q a) i).1 (aS (λc=>M (c>0)) (br q a) i).2=true:=λi hi=>by
  obtain⟨j,v,e⟩:=eK (better:=λc=>M (c>0)) (R:=br q a) i
  rw[e];exact t j O
 have m:∀i,(aS (λc=>M (c>0)) (br q a) (i+1))=match M (bw (ao (c8 q (i+1) a)) (ao (da q (i+1) a)) (ao (aS (λc=>M (c>0)) (br q a) i).1) (ao (aS (λc=>M (c>0)) (br q a) i).2)>0)with|true=>(c8 q (i+1) a,da q (i+1) a)|false=>aS (λc=>M (c>0)) (br q a) i:=λi=>rfl
 generalize aS (λc=>M (c>0)) (br q a)=Z at*
 have key:=aE.of (ι:=Nat) iw [fS,cw,cu,bR,je,fP] (bm PP II []) 1000 (c:=aD II 96 12001) (ir:=false) 18 (λi=>i<=b) (λi=>kF 100 101 102 q b a (λi=>(Z i.toNat).1) (λi=>(Z i.toNat).2) (i:Int)) (λ_=>kG 100 101 102 q (Z b).1 (Z b).2) (λi=>b-i) (λi=>i+1) 0 A (b_ _) λi hi=>?_
 ·exact key
 have hi:i<=b:=hi
 have d:((i:Int)).toNat=i:=O
 have n:((i:Int)+1).toNat=i+1:=O
 by_cases f:i<b
 ·refine xX q b a _ _ _ _ (i:Int) i A f o p g l ?_ (λh=>?_) (λh=>?_) _ ⟨f,O,rfl⟩
  ·show bJ (Z ((i:Int)).toNat).1 (Z ((i:Int)).toNat).2=true
   rw[d];exact u i hi
  ·show(Z ((i:Int)+1).toNat).1=_/\(Z ((i:Int)+1).toNat).2=_
   simp only[d]at h
   rw[n,m,bW h]
   exact⟨rfl,rfl⟩
  ·show(Z ((i:Int)+1).toNat).1=(Z ((i:Int)).toNat).1/\(Z ((i:Int)+1).toNat).2=(Z ((i:Int)).toNat).2
   simp only[d]at h
   rw[d,n,m,nZ h]
   exact⟨rfl,rfl⟩
 ·have hi:i=b:=by omega
  subst hi
  refine CP q i a _ _ _ _ (i:Int) A ?_ _
  show(Z i).1=(Z ((i:Int)).toNat).1/\(Z i).2=(Z ((i:Int)).toNat).2
  rw[d];exact⟨rfl,rfl⟩
end
section
open Go.Sort Go.Shelf Go.Proofs
def G2(x:List UInt8×List UInt8)(σ:Nat->Nat):x_ σ (.agg [.str x.1,.str x.2]) (.agg [.str x.1,.str x.2]):=⟨rfl,rfl,trivial⟩
def qi(n:Nat)(W:Nat->Int):((a_ n).all λi=>bt.free (ae W i))=true:=List.all_eq_true.2 λ_ _=>rfl
def jP(W:Nat->Int):aM (ae W)=W:=rfl
def Nz{q:Query}{k:Nat}{L G:Nat->Int}{C:Nat->Bool}(b:aI 3 q.nw (au q.C)=true)(d:aI 1 q.ng (aR q.G)=true)(e:eU q=true)(f:k<=1000)(g:fA L k):
  af PP II 96 [.agg (aY q),.ab k 3 (az L G C),.fn 97 [] [],.fn 95 [] [],.fn 98 [] [],.fn 99 [] []] HR (.ret (.agg [.str (eO q k L C).1,.str (eO q k L C).2]) HR):=by
 unfold eO
 have a:=G2
 cases l:(a_ k).any C with
 |true=>
  have n0:=CQ l
  have v:=mU C k
  have m:=fR (p:=C) g
  have h:=fR (p:=λi=>!C i) g
  have lp:=CR q k L G C f
  have lp2:=CS q (aP C k) (aP (λi=>!C i) k) (bS C L k) (bQ (aP (λi=>!C i) k) (bS (λi=>!C i) L k)) n0 b d e O m (kP h)
  refine qh (ks:=[fS,cw,cu,bR,mR,fO]) (T:=[(3001,16,pQ 97 98 99 q k L G C (λi=>aP C i.toNat) (λi=>aP (λi=>!C i) i.toNat) (bS C L k) (bS (λi=>!C i) L k) 0,pR 97 98 99 q (aP C k) (aP (λi=>!C i) k) (bS C L k) (bS (λi=>!C i) L k)),(12001,19,kD 97 98 99 q (aP C k) (aP (λi=>!C i) k) (bS C L k) (bQ (aP (λi=>!C i) k) (bS (λi=>!C i) L k)) (λi=>(aS (λc=>M (c<0)) (bN q (aP C k) (bS C L k) (bQ (aP (λi=>!C i) k) (bS (λi=>!C i) L k))) i.toNat).1) (λi=>(aS (λc=>M (c<0)) (bN q (aP C k) (bS C L k) (bQ (aP (λi=>!C i) k) (bS (λi=>!C i) L k))) i.toNat).2) 0,kE 97 98 99 q (aS (λc=>M (c<0)) (bN q (aP C k) (bS C L k) (bQ (aP (λi=>!C i) k) (bS (λi=>!C i) L k))) (aP (λi=>!C i) k)).1 (aS (λc=>M (c<0)) (bN q (aP C k) (bS C L k) (bQ (aP (λi=>!C i) k) (bS (λi=>!C i) L k))) (aP (λi=>!C i) k)).2)]) ?_
  rw[Nw]
  have a1:(bA (aP (λi=>!C i) k) (ae (bS (λi=>!C i) L k))&&i_ (aP (λi=>!C i) k) (aP (λi=>!C i) k)&&h_ (aP (λi=>!C i) k) 4611686018427387904&&true&&true)=true:=by
   rw[dy,ni,eV O];rfl
  have a2:(((a_ (aP C k)).all λi=>bt.free (ae (bS C L k) i))&&M (aP C k<=aP C k))=true:=by rw[qi,bW (dw _)];rfl
  have o:=dn (O:aP C k<=1000) m
  have z1:aP C (0:Int).toNat=0:=rfl
  have z2:aP (λi=>!C i) (0:Int).toNat=0:=rfl
  have j:aS (λc=>M (c<0)) (bN q (aP C k) (bS C L k) (bQ (aP (λi=>!C i) k) (bS (λi=>!C i) L k))) (0:Int).toNat=(c8 q (aP C k) (bS C L k),da q (aP C k) (bS C L k)):=rfl
  rw[jP,jP,jt b d,rQ,e,oJ,oK]
  simp only[j]
  generalize aS (λc=>M (c<0)) (bN q (aP C k) (bS C L k) (bQ (aP (λi=>!C i) k) (bS (λi=>!C i) L k)))=Z at*
  generalize aP (λi=>!C i) k=r at*
  generalize aP C k=n at*
  have a4:(true&&true&&bA n (ae (bS C L k))&&bX n (bS C L k))=true:=by rw[dy,o];rfl
  have hQ:=a (Z r)
  exact zZ
 |false=>
  have s:∀i,i<k->C i=false:=λi hi=>by
   have:=List.any_eq_false.1 l i (List.mem_range.2 hi)
   simpa using this
  have h:=kP g
  have lp:=AU q k L G f
  have lp2:=AW q k (bQ k L) b d e f h
  have key:af PP II 96 [.agg (aY q),.ab k 3 (az L G λ_=>false),.fn 97 [] [],.fn 95 [] [],.fn 98 [] [],.fn 99 [] []] HR (.ret (.agg [.str (aS (λc=>M (c<0)) (br q (bQ k L)) k).1,.str (aS (λc=>M (c<0)) (br q (bQ k L)) k).2]) HR):=by
   refine qh (ks:=[fS,cw,cu,bR,mR,fO]) (T:=[(3001,16,kB 97 98 99 q k L G 0,kC 97 98 99 q k L),(12001,18,kF 97 98 99 q k (bQ k L) (λi=>(aS (λc=>M (c<0)) (br q (bQ k L)) i.toNat).1) (λi=>(aS (λc=>M (c<0)) (br q (bQ k L)) i.toNat).2) 0,kG 97 98 99 q (aS (λc=>M (c<0)) (br q (bQ k L)) k).1 (aS (λc=>M (c<0)) (br q (bQ k L)) k).2)]) ?_
   rw[Jo]
   have a1:(bA k (ae L)&&i_ k k&&h_ k 4611686018427387904&&true&&true)=true:=by
    rw[dy,ni,eV O];rfl
   have j:aS (λc=>M (c<0)) (br q (bQ k L)) (0:Int).toNat=(c8 q 0 (λ_=>0),da q 0 (λ_=>0)):=rfl
   rw[jP,jt b d,rQ,e,oJ,oK]
   simp only[j]
   generalize aS (λc=>M (c<0)) (br q (bQ k L))=Z at*
   have hQ:=a (Z k)
   exact ZA
  intro c ρ w vs hG t u
  refine key c ρ w vs hG (aU.tQ (show bt.le _ [.agg (aY q),.ab k 3 (az L G C),.fn 97 [] [],.fn 95 [] [],.fn 98 [] [],.fn 99 [] []] [.agg (aY q),.ab k 3 (az L G λ_=>false),.fn 97 [] [],.fn 95 [] [],.fn 98 [] [],.fn 99 [] []]from⟨⟨⟨rfl,rfl,λi hi=>jq _ _ _⟩,⟨rfl,rfl,λi hi=>pF _ _ _⟩,⟨rfl,rfl⟩,⟨rfl,rfl⟩,rfl,rfl,⟨rfl,rfl⟩,trivial⟩,⟨rfl,rfl,λi hi=>⟨⟨rfl,rfl⟩,⟨rfl,rfl⟩,s i hi,trivial⟩⟩,⟨rfl,trivial,trivial⟩,⟨rfl,trivial,trivial⟩,⟨rfl,trivial,trivial⟩,⟨rfl,trivial,trivial⟩,trivial⟩) t) u
def NA{q:Query}{k:Nat}{L G:Nat->Int}{C:Nat->Bool}(b:aI 3 q.nw (au q.C)=true)(d:aI 1 q.ng (aR q.G)=true)(e:eU q=true)(f:k<=1000)(g:fA G k):
  af PP II 96 [.agg (aY q),.ab k 3 (az L G C),.fn 100 [] [],.fn 95 [] [],.fn 101 [] [],.fn 102 [] []] HR (.ret (.agg [.str (dQ q k G C).1,.str (dQ q k G C).2]) HR):=by
 unfold dQ
 have a:=G2
 cases l:(a_ k).any C with
 |true=>
  have n0:=CQ l
  have v:=mU C k
  have m:=fR (p:=C) g
  have h:=fR (p:=λi=>!C i) g
  have lp:=CT q k L G C f
  have lp2:=CU q (aP C k) (aP (λi=>!C i) k) (bS C G k) (cK (aP (λi=>!C i) k) (bS (λi=>!C i) G k)) n0 b d e O m (kQ h)
  refine qh (ks:=[fS,cw,cu,bR,je,fP]) (T:=[(3001,16,pQ 100 101 102 q k L G C (λi=>aP C i.toNat) (λi=>aP (λi=>!C i) i.toNat) (bS C G k) (bS (λi=>!C i) G k) 0,pR 100 101 102 q (aP C k) (aP (λi=>!C i) k) (bS C G k) (bS (λi=>!C i) G k)),(12001,19,kD 100 101 102 q (aP C k) (aP (λi=>!C i) k) (bS C G k) (cK (aP (λi=>!C i) k) (bS (λi=>!C i) G k)) (λi=>(aS (λc=>M (c>0)) (bN q (aP C k) (bS C G k) (cK (aP (λi=>!C i) k) (bS (λi=>!C i) G k))) i.toNat).1) (λi=>(aS (λc=>M (c>0)) (bN q (aP C k) (bS C G k) (cK (aP (λi=>!C i) k) (bS (λi=>!C i) G k))) i.toNat).2) 0,kE 100 101 102 q (aS (λc=>M (c>0)) (bN q (aP C k) (bS C G k) (cK (aP (λi=>!C i) k) (bS (λi=>!C i) G k))) (aP (λi=>!C i) k)).1 (aS (λc=>M (c>0)) (bN q (aP C k) (bS C G k) (cK (aP (λi=>!C i) k) (bS (λi=>!C i) G k))) (aP (λi=>!C i) k)).2)]) ?_
  rw[Nx]
  have a1:(bA (aP (λi=>!C i) k) (ae (bS (λi=>!C i) G k))&&i_ (aP (λi=>!C i) k) (aP (λi=>!C i) k)&&h_ (aP (λi=>!C i) k) 4611686018427387904&&true&&true)=true:=by
   rw[dy,ni,eV O];rfl
  have a2:(((a_ (aP C k)).all λi=>bt.free (ae (bS C G k) i))&&M (aP C k<=aP C k))=true:=by rw[qi,bW (dw _)];rfl
  have o:=dn (O:aP C k<=1000) m
  have z1:aP C (0:Int).toNat=0:=rfl
  have z2:aP (λi=>!C i) (0:Int).toNat=0:=rfl
  have j:aS (λc=>M (c>0)) (bN q (aP C k) (bS C G k) (cK (aP (λi=>!C i) k) (bS (λi=>!C i) G k))) (0:Int).toNat=(c8 q (aP C k) (bS C G k),da q (aP C k) (bS C G k)):=rfl
  rw[jP,jP,jt b d,rQ,e,oJ,oK]
  simp only[j]
  generalize aS (λc=>M (c>0)) (bN q (aP C k) (bS C G k) (cK (aP (λi=>!C i) k) (bS (λi=>!C i) G k)))=Z at*
  generalize aP (λi=>!C i) k=r at*
  generalize aP C k=n at*
  have a4:(true&&true&&bA n (ae (bS C G k))&&bX n (bS C G k))=true:=by rw[dy,o];rfl
  have hQ:=a (Z r)
  exact zZ
 |false=>
  have s:∀i,i<k->C i=false:=λi hi=>by
   have:=List.any_eq_false.1 l i (List.mem_range.2 hi)
   simpa using this
  have h:=kQ g
  have lp:=AX q k L G f
  have lp2:=AY q k (cK k G) b d e f h
  have key:af PP II 96 [.agg (aY q),.ab k 3 (az L G λ_=>false),.fn 100 [] [],.fn 95 [] [],.fn 101 [] [],.fn 102 [] []] HR (.ret (.agg [.str (aS (λc=>M (c>0)) (br q (cK k G)) k).1,.str (aS (λc=>M (c>0)) (br q (cK k G)) k).2]) HR):=by
   refine qh (ks:=[fS,cw,cu,bR,je,fP]) (T:=[(3001,16,kB 100 101 102 q k L G 0,kC 100 101 102 q k G),(12001,18,kF 100 101 102 q k (cK k G) (λi=>(aS (λc=>M (c>0)) (br q (cK k G)) i.toNat).1) (λi=>(aS (λc=>M (c>0)) (br q (cK k G)) i.toNat).2) 0,kG 100 101 102 q (aS (λc=>M (c>0)) (br q (cK k G)) k).1 (aS (λc=>M (c>0)) (br q (cK k G)) k).2)]) ?_
   rw[Jp]
   have a1:(bA k (ae G)&&i_ k k&&h_ k 4611686018427387904&&true&&true)=true:=by
    rw[dy,ni,eV O];rfl
   have j:aS (λc=>M (c>0)) (br q (cK k G)) (0:Int).toNat=(c8 q 0 (λ_=>0),da q 0 (λ_=>0)):=rfl
   rw[jP,jt b d,rQ,e,oJ,oK]
   simp only[j]
   generalize aS (λc=>M (c>0)) (br q (cK k G))=Z at*
   have hQ:=a (Z k)
   exact ZA
  intro c ρ w vs hG t u
  refine key c ρ w vs hG (aU.tQ (show bt.le _ [.agg (aY q),.ab k 3 (az L G C),.fn 100 [] [],.fn 95 [] [],.fn 101 [] [],.fn 102 [] []] [.agg (aY q),.ab k 3 (az L G λ_=>false),.fn 100 [] [],.fn 95 [] [],.fn 101 [] [],.fn 102 [] []]from⟨⟨⟨rfl,rfl,λi hi=>jq _ _ _⟩,⟨rfl,rfl,λi hi=>pF _ _ _⟩,⟨rfl,rfl⟩,⟨rfl,rfl⟩,rfl,rfl,⟨rfl,rfl⟩,trivial⟩,⟨rfl,rfl,λi hi=>⟨⟨rfl,rfl⟩,⟨rfl,rfl⟩,s i hi,trivial⟩⟩,⟨rfl,trivial,trivial⟩,⟨rfl,trivial,trivial⟩,⟨rfl,trivial,trivial⟩,⟨rfl,trivial,trivial⟩,trivial⟩) t) u
end
section
open Go.Sort Go.Shelf Go.Proofs
def lD(k:Nat)(r:Nat->List AV):Bool:=(a_ k).all λi=>match r i with|[.int d_ _,.int d_ _,.bool _]=>true|_=>false
def ka(r:Nat->List AV)(i:Nat):Int:=match r i with|[.int d_ a,_,_]=>a|_=>0
def iF(r:Nat->List AV)(i:Nat):Int:=match r i with|[_,.int d_ a,_]=>a|_=>0
def iG(r:Nat->List AV)(i:Nat):Bool:=match r i with|[_,_,.bool a]=>a|_=>false
def oL{k:Nat}{r:Nat->List AV}(h:lD k r=true):x_ (λl=>l) (.ab k 3 r) (.ab k 3 (az (ka r) (iF r) (iG r))):=⟨rfl,rfl,λi hi=>by
 have:=List.all_eq_true.1 h i (List.mem_range.2 hi)
 unfold az ka iF iG
 split at this
 ·rename_i a b c d;rw[d];exact⟨⟨rfl,rfl⟩,⟨rfl,rfl⟩,rfl,trivial⟩
 ·cases this⟩
def yY{k:Nat}{W:Nat->Int}(h:bX k W=true):fA W k:=(dW h).2
def af.G3{P:Program}{I:ba}{f:FuncId}{x y i j a b c d:AV}{H:AH}{o:CO}(h:af P I f [i,j,a,b,c,d] H o)(k1:x_ (λl=>l) x i)(k2:x_ (λl=>l) y j)(m:bt.le (λl=>l) [a,b,c,d] [a,b,c,d]):af P I f [x,y,a,b,c,d] H o :=
 λq ρ w vs hG s t=>h q ρ w vs hG (aU.tQ (show bt.le _ (x::y::[a,b,c,d]) (i::j::[a,b,c,d])from⟨k1,k2,m⟩) s) t
def SU:aC PP II:=aC.s9 96
 (λX args d=>match args with
  |[.agg cs,.ab k 3 r,.fn v [] [],.fn 95 [] [],.fn b [] [],.fn o [] []]=>match toQ cs with
   |some q=>X.ak (oA cs&&eU q&&lD k r&&bX k (ka r)&&bX k (iF r)) (match v,b,o with
    |97,98,99=>d (.agg [.str (eO q k (ka r) (iG r)).1,.str (eO q k (ka r) (iG r)).2])
    |100,101,102=>d (.agg [.str (dQ q k (iF r) (iG r)).1,.str (dQ q k (iF r) (iG r)).2])
    |_,_,_=>X.fail)
   |none=>X.fail
  |_=>X.fail)
 λX sem hX args d h=>by
  split at h
  ·split at h
   ·rename_i q a
    obtain⟨e,c⟩:=hX.ak _ _ h
    simp only[bf]at e
    obtain⟨⟨⟨⟨a1,a2⟩,f⟩,a4⟩,g⟩:=e
    obtain⟨r1,i⟩:=rN a a1
    have j:∀σ (l:List AV),bt.bD σ l=l->bt.bD σ (.agg _::l)= .agg _::l:=λσ l hl=>by
     show AV.bD σ (.agg _)::bt.bD σ l=_
     rw[nU a,hl]
    split at c
    ·exact⟨_,c,λ_=>rfl,λσ=>j σ _ A,(Nz (G:=iF _) r1 i a2 (dW a4).1 (yY a4)).G3 (toQ_le a a1) (oL f) ⟨⟨rfl,trivial,trivial⟩,⟨rfl,trivial,trivial⟩,⟨rfl,trivial,trivial⟩,⟨rfl,trivial,trivial⟩,trivial⟩⟩
    ·exact⟨_,c,λ_=>rfl,λσ=>j σ _ A,(NA (L:=ka _) r1 i a2 (dW g).1 (yY g)).G3 (toQ_le a a1) (oL f) ⟨⟨rfl,trivial,trivial⟩,⟨rfl,trivial,trivial⟩,⟨rfl,trivial,trivial⟩,⟨rfl,trivial,trivial⟩,trivial⟩⟩
    ·exact absurd c hX.fail
   ·exact zR
  ·exact zR
def Js(q:Query)(k:Nat)(L G:Nat->Int)(C:Nat->Bool)(Q:AV->Prop){b}(e:b=(dQ {nw:=q.nw,C:=λj k=>bV (au q.C j) k,ng:=q.ng,G:=λj=>q.G j,a:=q.a,fl:=q.fl,nu:=q.nu,de:=q.de,top:=q.top} k (iF (az L G C)) (iG (az L G C)))){c}(f:c=(oA [C_ q.nw 3 (au q.C),C_ q.ng 1 (aR q.G),t_ d_ q.a,t_ d_ q.fl,e_ q.nu,e_ q.de,t_ d_ q.top]&&eU {nw:=q.nw,C:=λj k=>bV (au q.C j) k,ng:=q.ng,G:=λj=>q.G j,a:=q.a,fl:=q.fl,nu:=q.nu,de:=q.de,top:=q.top}&&lD k (az L G C)&&bX k (ka (az L G C))&&bX k (iF (az L G C)))){d}(g:d=(eO {nw:=q.nw,C:=λj k=>bV (au q.C j) k,ng:=q.ng,G:=λj=>q.G j,a:=q.a,fl:=q.fl,nu:=q.nu,de:=q.de,top:=q.top} k (ka (az L G C)) (iG (az L G C)))):(kq [SU] [] 41 [.agg (aY q),.ab k 3 (az L G C)] Q)=(B c (B c (B (M (j_ b=j_ b)&&(M (k_ b=k_ b)&&true)) (Q (AV.bK [AV.agg [e_ (j_ d),e_ (k_ d)],AV.agg [e_ (j_ b),e_ (k_ b)]]))))):=by subst_vars;kernel_rfl
def CV(q:Query)(b:Nat)(V a:Nat->Int):bN (qX q) b V a=bN q b V a:=by
 funext i;cases i<;>rfl
def yZ(q:Query)(a:Nat->Int):br (qX q) a=br q a:=by
 funext i;cases i<;>rfl
def QF(q:Query)(k:Nat)(W:Nat->Int)(C:Nat->Bool):eO ⟨q.nw,λj k=>bV (au q.C j) k,q.ng,λj=>q.G j,q.a,q.fl,q.nu,q.de,q.top⟩ k W C=eO q k W C:=by
 show eO (qX q) k W C=_
 unfold eO
 rw[CV,yZ]
def QG(q:Query)(k:Nat)(W:Nat->Int)(C:Nat->Bool):dQ ⟨q.nw,λj k=>bV (au q.C j) k,q.ng,λj=>q.G j,q.a,q.fl,q.nu,q.de,q.top⟩ k W C=dQ q k W C:=by
 show dQ (qX q) k W C=_
 unfold dQ
 rw[CV,yZ]
def rS(k:Nat)(L G:Nat->Int)(C:Nat->Bool):lD k (az L G C)=true:=List.all_eq_true.2 λ_ _=>rfl
def wO(L G:Nat->Int)(C:Nat->Bool):ka (az L G C)=L/\iF (az L G C)=G/\iG (az L G C)=C:=⟨rfl,rfl,rfl⟩
def CW(q:Query)(k:Nat)(L G:Nat->Int)(C:Nat->Bool):AV:=.bK [.agg [.str (eO q k L C).1,.str (eO q k L C).2],.agg [.str (dQ q k G C).1,.str (dQ q k G C).2]]
def Jt{q:Query}{k:Nat}{L G:Nat->Int}{C:Nat->Bool}(c:aI 3 q.nw (au q.C)=true)(d:aI 1 q.ng (aR q.G)=true)(e:eU q=true)(hL:bX k L=true)(hG:bX k G=true):
  af PP II 41 [.agg (aY q),.ab k 3 (az L G C)] HR (.ret (CW q k L G C) HR):=by
 refine qh (ks:=[SU]) (T:=[]) ?_
 rw[Js _ _ _ _ _ _ A A A,jt c d,rQ,e,rS,(wO L G C).1,(wO L G C).2.1,(wO L G C).2.2,hL,hG]
 refine cC _ _ A (cC _ _ A (cC _ _ zA λσ=>?_))
 have a:=QF q k L C
 have b:=QG q k G C
 exact⟨⟨congrArg j_ a,congrArg k_ a,trivial⟩,⟨congrArg j_ b,congrArg k_ b,trivial⟩,trivial⟩
end
section
open Go.Sort Go.Shelf Go.Proofs
def aX(n:Nat)(K:Nat->Nat->Int)(S:Nat->Nat->List UInt8)(i:Nat):List AV:=[.ab n 1 (ae (K i)),.str (S i 0),.str (S i 1),.str (S i 2),.str (S i 3),.str [48],.str [49],.str [48],.str [49]]
def Xr(q:Query)(n:Nat)(K:Nat->Nat->Int)(S:Nat->Nat->List UInt8)(no top:Nat)(a:List (Nat×ai)):AH:={n:=top,t:=l_ ([(6,.cells dz (.ex 20)),(12,.cells (aY q) (.ty 32)),(13,.rows no 9 (aX n K S) (.ty 44))]++a)}
def t65(m n:Nat)(K:Nat->Nat->Int)(S:Nat->Nat->List UInt8)(no:Nat)(i:Int)(a:List (Nat×AV)):Tr AV:=l_ ([(1,.ab m 9 (aX n K S)),(2,.ptr 12 0 0 0),(5,.own 13 no 9),(15,.ab m 9 (aX n K S)),(16,.int d_ (z m)),(17,.int d_ i)]++a)
def SV(q:Query)(m n:Nat)(K a:Nat->Nat->Int)(S b:Nat->Nat->List UInt8)(N:Int->Nat)(i:Int):St:={t:=t65 m n K S (N i) i [],nt:=46,H:=Xr q n a b (N i) 14 [],df:=[]}
def SX(q:Query)(n:Nat)(a:Nat->Nat->Int)(b:Nat->Nat->List UInt8)(no:Nat):GE:=.one (.x 0 {t:=l_ [(5,.own 13 no 9)],nt:=46,H:=Xr q n a b no 14 [],df:=[]})
def wP(q:Query)(m n:Nat)(K a:Nat->Nat->Int)(S b:Nat->Nat->List UInt8)(no:Nat)(i:Int)(r:Nat)(c:Int->Int)(j:Int):St:={t:=t65 m n K S no i [(7,.ptr 14 0 0 0),(8,.int d_ (c j)),(21,.ab m 9 (aX n K S)),(22,.int d_ (z m)),(23,.int d_ j)],nt:=46,H:=Xr q n a b no 15 [(14,.cells (aX n K S r) (.ty 44))],df:=[]}
def wQ(q:Query)(m n:Nat)(K a:Nat->Nat->Int)(S b:Nat->Nat->List UInt8)(no:Nat)(i:Int)(r:Nat)(c:Int):GE:=.one (.x 2 {t:=t65 m n K S no i [(7,.ptr 14 0 0 0),(8,.int d_ c)],nt:=46,H:=Xr q n a b no 15 [(14,.cells (aX n K S r) (.ty 44))],df:=[]})
def wR(q:Query)(m n:Nat)(K b:Nat->Nat->Int)(S d:Nat->Nat->List UInt8)(no:Nat)(i:Int)(r:Nat)(c:Int->Int)(cE:Int)(j:Int)(Q:Prop):(kr [j8] [] 42 9001 15 (wP q m n K b S d no i r c) (λ_=>wQ q m n K b S d no i r cE) (λj=>j+1) Q j)=(ah (M (j<z m)) (B (M (0<=j)&&M (j<z m)) (B (bJ (S j.toNat 0) (S j.toNat 1)&&bJ (S r 2) (S r 3)) (ah (M (bw (ao (S j.toNat 0)) (ao (S j.toNat 1)) (ao (S r 2)) (ao (S r 3))>0)) (B (aN d_ (c j+1)) (B (aN d_ (j+1)) (zyN n (zyR n (ae (K r)) (zyB (S r 0) (zyB (S r 1) (zyB (S r 2) (zyB (S r 3) (zyB [48] (zyB [49] (zyB [48] (zyB [49] (zyN no (zyR no (aX n b d) (zyN q.nw (zyR q.nw (au q.C) (zyN q.ng (zyR q.ng (aR q.G) (zyI q.a (zyI q.fl (zyB q.nu (zyB q.de (zyI q.top (zyN m (zyR m (aX n K S) (zyI (j+1) (zyN m (zyR m (aX n K S) (zyI i (zyN no (zyN m (zyR m (aX n K S) (zyI (z m) (aH (c j+1) (c (j+1)) (zyI (z m) Q))))))))))))))))))))))))))))))))))) (B (aN d_ (j+1)) (zyN n (zyR n (ae (K r)) (zyB (S r 0) (zyB (S r 1) (zyB (S r 2) (zyB (S r 3) (zyB [48] (zyB [49] (zyB [48] (zyB [49] (zyN no (zyR no (aX n b d) (zyN q.nw (zyR q.nw (au q.C) (zyN q.ng (zyR q.ng (aR q.G) (zyI q.a (zyI q.fl (zyB q.nu (zyB q.de (zyI q.top (zyN m (zyR m (aX n K S) (zyI (j+1) (zyN m (zyR m (aX n K S) (zyI i (zyN no (zyN m (zyR m (aX n K S) (zyI (z m) (aH (c j) (c (j+1)) (zyI (z m) Q))))))))))))))))))))))))))))))))))))) (zyN n (zyR n (ae (K r)) (zyB (S r 0) (zyB (S r 1) (zyB (S r 2) (zyB (S r 3) (zyB [48] (zyB [49] (zyB [48] (zyB [49] (zyN no (zyR no (aX n b d) (zyN q.nw (zyR q.nw (au q.C) (zyN q.ng (zyR q.ng (aR q.G) (zyI q.a (zyI q.fl (zyB q.nu (zyB q.de (zyI q.top (zyN m (zyR m (aX n K S) (zyN m (zyR m (aX n K S) (zyI i (zyN no (zyI (z m) (aH (c j) cE True)))))))))))))))))))))))))))))):=U
def uh(q:Query)(m n:Nat)(K b:Nat->Nat->Int)(S d:Nat->Nat->List UInt8)(N:Int->Nat)(no:Nat)(c:Int->Int)(cE:Int)(i:Int)(Q:Prop):(kr [j8] [(9001,15,wP q m n K b S d (N i) i i.toNat c 0,wQ q m n K b S d (N i) i i.toNat cE)] 42 5001 13 (SV q m n K b S d N) (λ_=>SX q n b d no) (λj=>j+1) Q i)=(ah (M (i<z m)) (B (M (0<=i)&&M (i<z m)) (aE PP II false (aD II 42 9001) 15 (wP q m n K b S d (N i) i i.toNat c 0) (wQ q m n K b S d (N i) i i.toNat cE)/\zyN n (zyR n (ae (K i.toNat)) (zyB (S i.toNat 0) (zyB (S i.toNat 1) (zyB (S i.toNat 2) (zyB (S i.toNat 3) (zyB [48] (zyB [49] (zyB [48] (zyB [49] (zyN (N i) (zyR (N i) (aX n b d) (zyN q.nw (zyR q.nw (au q.C) (zyN q.ng (zyR q.ng (aR q.G) (zyI q.a (zyI q.fl (zyB q.nu (zyB q.de (zyI q.top (zyN m (zyR m (aX n K S) (zyN m (zyR m (aX n K S) (zyI i (zyN (N i) (zyN m (zyR m (aX n K S) (zyI (z m) (aH 0 (c 0) (zyI (z m) (ah (M (cE<q.top)) (B (M (N i<=N i)&&true&&true&&M ((N i+1)*152<=140737488355328)&&true) (B (aN d_ (i+1)) (ax (N i+1) (N (i+1)) (an (N i+1) (λe=>bif h_ e (N i)then aX n b d e else u_ 9 (v_ (0+(e-N i)*9) [C_ n 1 (ae (K i.toNat)),e_ (S i.toNat 0),e_ (S i.toNat 1),e_ (S i.toNat 2),e_ (S i.toNat 3),e_ [48],e_ [49],e_ [48],e_ [49]])) (aX n b d)/\zyN q.nw (zyR q.nw (au q.C) (zyN q.ng (zyR q.ng (aR q.G) (zyI q.a (zyI q.fl (zyB q.nu (zyB q.de (zyI q.top (zyN m (zyR m (aX n K S) (zyN m (zyR m (aX n K S) (zyI (i+1) (ax (N i+1) (N (i+1)) (zyI (z m) Q))))))))))))))))))) (B (aN d_ (i+1)) (ax (N i) (N (i+1)) (zyR (N i) (aX n b d) (zyN q.nw (zyR q.nw (au q.C) (zyN q.ng (zyR q.ng (aR q.G) (zyI q.a (zyI q.fl (zyB q.nu (zyB q.de (zyI q.top (zyN m (zyR m (aX n K S) (zyN m (zyR m (aX n K S) (zyI (i+1) (ax (N i) (N (i+1)) (zyI (z m) Q))))))))))))))))))))))))))))))))))))))))))))))))))))) (ax (N i) no (zyR (N i) (aX n b d) (zyN q.nw (zyR q.nw (au q.C) (zyN q.ng (zyR q.ng (aR q.G) (zyI q.a (zyI q.fl (zyB q.nu (zyB q.de (zyI q.top (ax (N i) no True))))))))))))):=U
def Uq(q:Query)(m n:Nat)(K b:Nat->Nat->Int)(S c:Nat->Nat->List UInt8)(N:Int->Nat)(no:Nat)(Q:AV->Prop):(kp [j8] [(5001,13,SV q m n K b S c N 0,SX q n b c no)] 42 [.agg (aY q),.ab m 9 (aX n K S)] Q)=(ah (M (q.top=0)) (Q (C_ m 9 (aX n K S))) (aE PP II false (aD II 42 5001) 13 (SV q m n K b S c N 0) (SX q n b c no)/\ax (N 0) 0 (zyN q.nw (zyR q.nw (au q.C) (zyN q.ng (zyR q.ng (aR q.G) (zyI q.a (zyI q.fl (zyB q.nu (zyB q.de (zyI q.top (zyN m (zyR m (aX n K S) (zyN m (zyR m (aX n K S) (ax (N 0) 0 (zyI (z m) (B ((E_ (a_ no) λi=>bt.free (aX n b c i))&&M (no<=no)) (Q (C_ no 9 (aX n b c))))))))))))))))))))):=U
def V5(m n:Nat)(K:Nat->Nat->Int)(S:Nat->Nat->List UInt8)(i:Int):St:={t:=l_ [(1,.ab m 9 (aX n K S)),(2,.fn 78 [] []),(15,.ab m 9 (aX n K S)),(16,.int d_ (z m)),(17,.int d_ i)],nt:=32,H:=g_ 12,df:=[]}
def V6:GE:=.one (.x 0 {t:=.e,nt:=32,H:=g_ 12,df:=[]})
def V7(n:Nat)(W:Nat->Int)(i:Int):St:={t:=l_ [(0,.ab n 1 (ae W)),(1,.ab n 1 (ae W)),(11,.ab n 1 (ae W)),(12,.int d_ (z n)),(13,.int d_ i)],nt:=26,H:=g_ 12,df:=[]}
def V8:GE:=.one (.x 0 {t:=.e,nt:=26,H:=g_ 12,df:=[]})
def Rf(n:Nat)(W:Nat->Int)(i:Int)(Q:Prop):(kr [] [] 79 4001 12 (V7 n W) (λ_=>V8) (λj=>j+1) Q i)=(ah (M (i<z n)) (B (M (0<=i)&&M (i<z n)) (B (M (0<=i)&&M (i<z n)) (ah (!decide (W i.toNat=W i.toNat)) False (B (aN d_ (i+1)) (zyN n (zyR n (ae W) (zyN n (zyR n (ae W) (zyI (i+1) (zyN n (zyR n (ae W) (zyI (z n) Q)))))))))))) True):=U
def VJ(n:Nat)(W:Nat->Int)(Q:AV->Prop):(kb [] [(4001,12,V7 n W 0,V8)] 79 [.ab n 1 (ae W),.ab n 1 (ae W)] Q)=(ah (!decide (z n=z n)) (Q (y_ false)) (aE PP II false (aD II 79 4001) 12 (V7 n W 0) V8/\zyN n (zyR n (ae W) (zyN n (zyR n (ae W) (zyN n (zyR n (ae W) (zyI (z n) (Q (y_ true)))))))))):=U
end
section
open Go.Sort Go.Shelf Go.Proofs
def oM(n:Nat)(K:Nat->Nat->Int)(S:Nat->Nat->List UInt8)(i:Nat)(σ:Nat->Nat):bt.le σ (aX n K S i) (aX n K S i):=⟨⟨rfl,rfl,λ_ _=>ep _ _ _⟩,rfl,rfl,rfl,rfl,rfl,rfl,rfl,rfl,trivial⟩
def eP(m n:Nat)(K:Nat->Nat->Int)(S:Nat->Nat->List UInt8):an m (aX n K S) (aX n K S):=λi _ σ=>oM n K S i σ
def CX(q:Query)(m n:Nat)(K e:Nat->Nat->Int)(S f:Nat->Nat->List UInt8)(no:Nat)(i:Int)(r:Nat)(c:Int->Int)(cE:Int)(j:Int)(a:Nat)(o:j=(a:Int))(ha:a<m)(p:m<=1000000)(s:0<=c j/\c j<=1000000)(g:bJ (S a 0) (S a 1)=true)(d:bJ (S r 2) (S r 3)=true)
  (k:bw (ao (S a 0)) (ao (S a 1)) (ao (S r 2)) (ao (S r 3))>0->c (j+1)=c j+1) (hn :¬ bw (ao (S a 0)) (ao (S a 1)) (ao (S r 2)) (ao (S r 3))>0->c (j+1)=c j) (Q:Prop) (hQ:Q):
  kr [j8] [] 42 9001 15 (wP q m n K e S f no i r c) (λ_=>wQ q m n K e S f no i r cE) (λj=>j+1) Q j:=by
 rw[wR]
 have l:F_ j=a:=O
 have t:z m=(m:Int):=rfl
 rw[l]
 have b:aN d_ (j+1)=true:=aq O O
 refine Zg (λ_=>?_) λh=>absurd h O
 refine cC _ _ zN (cC _ _ (by rw[g,d];rfl) ?_)
 refine Zg (λh=>?_) λh=>?_
 ·have k1:=(k h).symm
  refine cC _ _ (aq O O) (cC _ _ b ?_)
  exact ZB
 ·have k1:=(hn h).symm
  refine cC _ _ b ?_
  exact ZB
def Ju(q:Query)(m n:Nat)(K a:Nat->Nat->Int)(S b:Nat->Nat->List UInt8)(no:Nat)(i:Int)(r:Nat)(c:Int->Int)(cE:Int)(j:Int)(d:j=(m:Int))(k1:c j=cE)(Q:Prop):
  kr [j8] [] 42 9001 15 (wP q m n K a S b no i r c) (λ_=>wQ q m n K a S b no i r cE) (λj=>j+1) Q j:=by
 rw[wR]
 have e:z m=(m:Int):=rfl
 have hQ:=trivial
 refine Zg (λh=>absurd h O) λ_=>?_
 exact ZB
def AZ(n:Nat)(K a:Nat->Nat->Int)(S b:Nat->Nat->List UInt8)(no r:Nat)(c:a no=K r)(d:b no=S r):an (no+1) (λi=>bif h_ i no then aX n a b i else u_ 9 (v_ (0+(i-no)*9) [.ab n 1 (ae (K r)),.str (S r 0),.str (S r 1),.str (S r 2),.str (S r 3),.str [48],.str [49],.str [48],.str [49]])) (aX n a b):=λk f σ=>by
 show bt.le σ (bif h_ k no then aX n a b k else u_ 9 (v_ (0+(k-no)*9) (aX n K S r))) (aX n a b k)
 by_cases h:k<no
 ·rw[eV h];exact oM n a b k σ
 ·have:k=no:=by omega
  subst this
  rw[js h,show 0+(k-k)*9=0 by omega]
  have e:aX n a b k=aX n K S r:=by unfold aX;rw[c,d]
  rw[e]
  exact oM n K S r σ
def A0(q:Query)(m n:Nat)(K b:Nat->Nat->Int)(S d:Nat->Nat->List UInt8)(N:Int->Nat)(no:Nat)(c:Int->Int)(cE:Int)(i:Int)(a:Nat)(hi:i=(a:Int))(ha:a<m)(o:m<=1000000)(p:N i<=1000000)(hl:aE PP II false (aD II 42 9001) 15 (wP q m n K b S d (N i) i a c 0) (wQ q m n K b S d (N i) i a cE))(c0:(0:Int)=c 0)
  (f:cE<q.top->N (i+1)=N i+1/\b (N i)=K a/\d (N i)=S a) (hn :¬ cE<q.top->N (i+1)=N i) (Q:Prop) (hQ:Q):
  kr [j8] [(9001,15,wP q m n K b S d (N i) i i.toNat c 0,wQ q m n K b S d (N i) i i.toNat cE)] 42 5001 13 (SV q m n K b S d N) (λ_=>SX q n b d no) (λj=>j+1) Q i:=by
 rw[uh]
 have g:F_ i=a:=O
 have r:z m=(m:Int):=rfl
 rw[g]
 have e:aN d_ (i+1)=true:=aq O O
 have k:(M (N i<=N i)&&true&&true&&M ((N i+1)*152<=140737488355328)&&true)=true:=by rw[bW (dw (N i)),bW (O:(N i+1)*152<=140737488355328)];rfl
 refine Zg (λ_=>?_) λh=>absurd h O
 refine cC _ _ zN ?_
 by_cases hk:cE<q.top
 ·obtain⟨k1,k2,l⟩:=f hk
  have k1:=k1.symm
  have rows:=AZ n K b S d (N i) a k2 l
  repeat' (first|with_reducible refine Zf A ?_|with_reducible refine YG A ?_|with_reducible refine Zi A ?_|with_reducible refine And.intro ?_ ?_|with_reducible exact bL _ _|with_reducible exact bC _ _|with_reducible exact bO _ _|with_reducible exact eP _ _ _ _|with_reducible exact hQ|with_reducible exact hl|with_reducible refine Zf c0 ?_|with_reducible refine YG k1 ?_|with_reducible refine Zg (λ_=>?_) (λh=>absurd hk h)|with_reducible refine cC _ _ e ?_|with_reducible refine cC _ _ k ?_|exact rows)
 ·have k1:=(hn hk).symm
  repeat' (with_reducible first|refine Zf A ?_|refine YG A ?_|refine Zi A ?_|refine And.intro ?_ ?_|exact bL _ _|exact bC _ _|exact bO _ _|exact eP _ _ _ _|exact hQ|exact hl|refine Zf c0 ?_|refine YG k1 ?_|refine Zg (λh=>absurd h hk) (λ_=>?_)|refine cC _ _ e ?_)
def Fq(q:Query)(m n:Nat)(K a:Nat->Nat->Int)(S b:Nat->Nat->List UInt8)(N:Int->Nat)(no:Nat)(c:Int->Int)(cE:Int)(i:Int)(hi:i=(m:Int))(k1:N i=no)(Q:Prop):
  kr [j8] [(9001,15,wP q m n K a S b (N i) i i.toNat c 0,wQ q m n K a S b (N i) i i.toNat cE)] 42 5001 13 (SV q m n K a S b N) (λ_=>SX q n a b no) (λj=>j+1) Q i:=by
 rw[uh]
 have d:z m=(m:Int):=rfl
 have hQ:=trivial
 refine Zg (λh=>absurd h O) λ_=>?_
 repeat' (with_reducible first|refine Zf A ?_|refine YG A ?_|refine Zi A ?_|refine And.intro ?_ ?_|exact bL _ _|exact bC _ _|exact bO _ _|exact eP _ _ _ _|exact hQ|refine YG k1 ?_)
end
section
open Go.Sort Go.Shelf Go.Proofs
def eQ(p:Nat->Bool)(k j:Nat):Nat:=((a_ k).filter p).getD j 0
def wS{p:Nat->Bool}{k m:Nat}(a:m<k)(h:p m=true):eQ p k (aP p m)=m:=by
 unfold eQ aP
 obtain⟨r,rfl⟩:∃r,k=m+(r+1):=⟨k-m-1,O⟩
 rw[A_,n_,B_,f_,q_,D_,h]
 simp[c_]
def xY(S:Nat->Nat->List UInt8)(i a:Nat):Bool:=M (bw (ao (S a 0)) (ao (S a 1)) (ao (S i 2)) (ao (S i 3))>0)
def cQ(q:Query)(m:Nat)(S:Nat->Nat->List UInt8)(i:Nat):Bool:=M (((aP (xY S i) m:Nat):Int)<q.top)
def uZ(m:Nat)(S:Nat->Nat->List UInt8):Prop := ∀i,i<m->bJ (S i 0) (S i 1)=true/\bJ (S i 2) (S i 3)=true
def Fs(q:Query)(m n:Nat)(K b:Nat->Nat->Int)(S d:Nat->Nat->List UInt8)(no:Nat)(i:Int)(r:Nat)(k:r<m)(l:m<=1000000)(hS:uZ m S):
  aE PP II false (aD II 42 9001) 15 (wP q m n K b S d no i r (λj=>((aP (xY S r) j.toNat:Nat):Int)) 0) (wQ q m n K b S d no i r ((aP (xY S r) m:Nat):Int)):=by
 have key:=aE.of (ι:=Nat) iw [j8] (bm PP II []) 1000 (c:=aD II 42 9001) (ir:=false) 15 (λj=>j<=m) (λj=>wP q m n K b S d no i r (λj=>((aP (xY S r) j.toNat:Nat):Int)) (j:Int)) (λ_=>wQ q m n K b S d no i r ((aP (xY S r) m:Nat):Int)) (λj=>m-j) (λj=>j+1) 0 A (b_ _) λj e=>?_
 ·exact key
 have e:j<=m:=e
 have f:((j:Int)).toNat=j:=O
 have g:((j:Int)+1).toNat=j+1:=O
 by_cases a:j<m
 ·have o:=jV (xY S r) j
  refine CX q m n K b S d no i r _ _ (j:Int) j A a l ?_ (hS j a).1 (hS r k).2 (λh=>?_) (λh=>?_) _ ⟨a,O,rfl⟩
  ·show 0<=((aP (xY S r) ((j:Int)).toNat:Nat):Int)/\((aP (xY S r) ((j:Int)).toNat:Nat):Int)<=_
   rw[f];omega
  ·show((aP (xY S r) ((j:Int)+1).toNat:Nat):Int)=((aP (xY S r) ((j:Int)).toNat:Nat):Int)+1
   rw[f,g,iE (bW h)];rfl
  ·show((aP (xY S r) ((j:Int)+1).toNat:Nat):Int)=((aP (xY S r) ((j:Int)).toNat:Nat):Int)
   rw[f,g,kO (nZ h)]
 ·have e:j=m:=by omega
  subst e
  refine Ju q j n K b S d no i r _ _ (j:Int) A ?_ _
  show((aP (xY S r) ((j:Int)).toNat:Nat):Int)=_
  rw[f]
def CY(q:Query)(m n:Nat)(K:Nat->Nat->Int)(S:Nat->Nat->List UInt8)(e:m<=1000000)(hS:uZ m S):
  aE PP II false (aD II 42 5001) 13 (SV q m n K (λj=>K (eQ (cQ q m S) m j)) S (λj=>S (eQ (cQ q m S) m j)) (λi=>aP (cQ q m S) i.toNat) 0) (SX q n (λj=>K (eQ (cQ q m S) m j)) (λj=>S (eQ (cQ q m S) m j)) (aP (cQ q m S) m)):=by
 have key:=aE.Vk (ι:=Nat) iw [j8] 1000 (λi=>[(9001,15,wP q m n K (λj=>K (eQ (cQ q m S) m j)) S (λj=>S (eQ (cQ q m S) m j)) (aP (cQ q m S) ((i:Int)).toNat) (i:Int) ((i:Int)).toNat (λj=>((aP (xY S i) j.toNat:Nat):Int)) 0,wQ q m n K (λj=>K (eQ (cQ q m S) m j)) S (λj=>S (eQ (cQ q m S) m j)) (aP (cQ q m S) ((i:Int)).toNat) (i:Int) ((i:Int)).toNat ((aP (xY S i) m:Nat):Int))]) (c:=aD II 42 5001) (ir:=false) 13 (λi=>i<=m) (λi=>SV q m n K (λj=>K (eQ (cQ q m S) m j)) S (λj=>S (eQ (cQ q m S) m j)) (λi=>aP (cQ q m S) i.toNat) (i:Int)) (λ_=>SX q n (λj=>K (eQ (cQ q m S) m j)) (λj=>S (eQ (cQ q m S) m j)) (aP (cQ q m S) m)) (λi=>m-i) (λi=>i+1) 0 A (b_ _) λi hi=>?_
 ·exact key
 have hi:i<=m:=hi
 have b:((i:Int)).toNat=i:=O
 have f:((i:Int)+1).toNat=i+1:=O
 by_cases a:i<m
 ·have g:=jV (cQ q m S) i
  refine A0 q m n K _ S _ (λi=>aP (cQ q m S) i.toNat) _ (λj=>((aP (xY S i) j.toNat:Nat):Int)) _ (i:Int) i A a e ?_ ?_ A (λh=>?_) (λh=>?_) _ ⟨a,O,rfl⟩
  ·show aP (cQ q m S) ((i:Int)).toNat<=_
   rw[b];omega
  ·exact Fs q m n K _ S _ _ (i:Int) i a e hS
  ·have d:cQ q m S i=true:=bW h
   show aP (cQ q m S) ((i:Int)+1).toNat=aP (cQ q m S) ((i:Int)).toNat+1/\K (eQ (cQ q m S) m (aP (cQ q m S) ((i:Int)).toNat))=K i/\S (eQ (cQ q m S) m (aP (cQ q m S) ((i:Int)).toNat))=S i
   rw[b,f,iE d,wS a d]
   exact⟨rfl,rfl,rfl⟩
  ·have d:cQ q m S i=false:=nZ h
   show aP (cQ q m S) ((i:Int)+1).toNat=aP (cQ q m S) ((i:Int)).toNat
   rw[b,f,kO d]
 ·have hi:i=m:=by omega
  subst hi
  refine Fq q i n K _ S _ (λj=>aP (cQ q i S) j.toNat) _ _ _ (i:Int) A ?_ _
  show aP (cQ q i S) ((i:Int)).toNat=_
  rw[b]
def ju(q:Query)(m:Nat)(S:Nat->Nat->List UInt8):Nat:=if q.top=0 then m else aP (cQ q m S) m
def cS(q:Query)(m:Nat)(S:Nat->Nat->List UInt8)(j:Nat):Nat:=if q.top=0 then j else eQ (cQ q m S) m j
def QH(m n:Nat)(K:Nat->Nat->Int)(S:Nat->Nat->List UInt8):((a_ m).all λi=>bt.free (aX n K S i))=true:=List.all_eq_true.2 λ_ _=>rfl
def Us{q:Query}{m n:Nat}{K:Nat->Nat->Int}{S:Nat->Nat->List UInt8}(b:m<=1000000)(hS:uZ m S):
  af PP II 42 [.agg (aY q),.ab m 9 (aX n K S)] HP (.ret (.ab (ju q m S) 9 (aX n (λj=>K (cS q m S j)) λj=>S (cS q m S j))) HP):=by
 refine kz (ks:=[j8]) (T:=[(5001,13,SV q m n K (λj=>K (eQ (cQ q m S) m j)) S (λj=>S (eQ (cQ q m S) m j)) (λi=>aP (cQ q m S) i.toNat) 0,SX q n (λj=>K (eQ (cQ q m S) m j)) (λj=>S (eQ (cQ q m S) m j)) (aP (cQ q m S) m))]) ?_
 rw[Uq]
 have a:aP (cQ q m S) (0:Int).toNat=0:=rfl
 have lp:=CY q m n K S b hS
 refine Zg (λh=>?_) λh=>?_
 ·intro σ
  unfold ju cS
  simp only[if_pos h]
  exact⟨rfl,rfl,λi hi=>oM n K S i σ⟩
 ·have hQ:∀σ,x_ σ (.ab (aP (cQ q m S) m) 9 (aX n (λj=>K (eQ (cQ q m S) m j)) λj=>S (eQ (cQ q m S) m j))) (.ab (ju q m S) 9 (aX n (λj=>K (cS q m S j)) λj=>S (cS q m S j))):=λσ=>by
   unfold ju cS
   simp only[if_neg h]
   exact⟨rfl,rfl,λi hi=>oM _ _ _ i σ⟩
  refine⟨lp,YG a (YG A ⟨bC _ _,YG A ⟨bO _ _,Zf A (Zf A (Zi A (Zi A (Zf A (YG A ⟨eP _ _ _ _,YG A ⟨eP _ _ _ _,YG a (Zf A (cC _ _ (by rw[QH,bW (dw _)];rfl) hQ))⟩⟩)))))⟩⟩)⟩
def VK{n:Nat}{W:Nat->Int}(hn:n<=1000000):af PP II 79 [.ab n 1 (ae W),.ab n 1 (ae W)] (g_ 12) (.ret (.bool true) (g_ 12)):=by
 have key:=aE.of (ι:=Nat) iw [] (bm PP II []) 1000 (c:=aD II 79 4001) (ir:=false) 12 (λj=>j<=n) (λj=>V7 n W (j:Int)) (λ_=>V8) (λj=>n-j) (λj=>j+1) 0 A (b_ _) λj b=>?_
 ·refine bY (ks:=[]) (T:=[(4001,12,V7 n W 0,V8)]) (λ_=>rfl) ?_
  rw[VJ]
  refine wA A ?_
  exact⟨key,YG A ⟨bL _ _,YG A ⟨bL _ _,YG A ⟨bL _ _,Zf A A⟩⟩⟩⟩
 have b:j<=n:=b
 have go:∀(i:Int)(Q:Prop),i=(j:Int)->(j<n->Q)->kr [] [] 79 4001 12 (V7 n W) (λ_=>V8) (λj=>j+1) Q i:=λi Q hi hQ=>by
  rw[Rf]
  have d:z n=(n:Int):=rfl
  refine Zg (λh=>?_) λ_=>trivial
  have ha:(M (0<=i)&&M (i<z n))=true:=by simp only[bf,bn];omega
  refine cC _ _ ha (cC _ _ ha (wA A (cC _ _ (aq O O) ?_)))
  exact YG A ⟨bL _ _,YG A ⟨bL _ _,Zf A (YG A ⟨bL _ _,Zf A (hQ O)⟩)⟩⟩
 exact go (j:Int) _ A λa=>⟨a,O,rfl⟩
def Rg:aC PP II:=aC.pure 79
 (λX args a=>match args with
  |[.ab n 1 f,.ab m 1 g]=>X.ak (bA n f&&bA m g&&o_ n 1000000&&i_ n m&&(a_ n).all λi=>M (aM f i=aM g i)) (a (.bool true))
  |_=>X.fail)
 λX sem hX args a h=>by
  split at h
  ·rename_i n f m g
   obtain⟨b,c⟩:=hX.ak _ _ h
   simp only[bf]at b
   obtain⟨⟨⟨⟨a1,a2⟩,d⟩,a4⟩,j⟩:=b
   cases dE a4
   refine⟨_,c,λ_=>rfl,λ_=>rfl,af.dA (VK (W:=aM f) (jX d)) (cy a1) ⟨rfl,rfl,λi hi=>?_⟩⟩
   have e:=List.all_eq_true.1 j i (List.mem_range.2 hi)
   simp only[bn]at e
   rw[kZ a2 i hi]
   show bt.le _ [.int d_ (aM g i)] [.int d_ (aM f i)]
   rw[e]
   exact⟨⟨rfl,rfl⟩,trivial⟩
  ·exact zR
def OJ(m n:Nat)(K:Nat->Nat->Int)(S:Nat->Nat->List UInt8)(i:Int)(Q:Prop):(kr [Rg] [] 77 4001 12 (V5 m n K S) (λ_=>V6) (λj=>j+1) Q i)=(ah (M (i<z m)) (B (M (0<=i)&&M (i<z m)) (B (M (0<=i)&&M (i<z m)) (B (bA n (ae (K i.toNat))&&bA n (ae (K i.toNat))&&o_ n 1000000&&i_ n n&&E_ (a_ n) λa=>M (aM (ae (K i.toNat)) a=aM (ae (K i.toNat)) a)) (ah (!(m_ (S i.toNat 0) (S i.toNat 0)&&(m_ (S i.toNat 1) (S i.toNat 1)&&true)&&(m_ (S i.toNat 2) (S i.toNat 2)&&(m_ (S i.toNat 3) (S i.toNat 3)&&true)&&true))) False (B (aN d_ (i+1)) (zyN m (zyR m (aX n K S) (zyN m (zyR m (aX n K S) (zyI (i+1) (zyI (z m) Q))))))))))) True):=U
def Tq(m n:Nat)(K:Nat->Nat->Int)(S:Nat->Nat->List UInt8)(Q:AV->Prop):(kb [Rg] [(4001,12,V5 m n K S 0,V6)] 29 [.ab m 9 (aX n K S),.ab m 9 (aX n K S)] Q)=(ah (!decide (z m=z m)) (Q (y_ false)) (aE PP II false (aD II 77 4001) 12 (V5 m n K S 0) V6/\zyN m (zyR m (aX n K S) (zyN m (zyR m (aX n K S) (zyI (z m) (Q (y_ true)))))))):=U
end
section
open Go.Sort Go.Shelf Go.Proofs
def QJ(n:Nat)(cs:List AV):Bool:=match cs with
 |[.ab k 1 f,.str _,.str _,.str _,.str _,.str [48],.str [49],.str [48],.str [49]]=>i_ k n&&bA n f
 |_=>false
def wT(n m:Nat)(r:Nat->List AV):Bool:=(a_ m).all λi=>QJ n (r i)
def CZ(r:Nat->List AV)(i k:Nat):Int:=match r i with| .ab _ _ f::_=>aM f k|_=>0
def nV(r:Nat->List AV)(i k:Nat):List UInt8:=match(r i).getD (k+1) .any with| .str s=>s|_=>[]
def G4{n:Nat}{r:Nat->List AV}{i:Nat}(h:QJ n (r i)=true)(σ:Nat->Nat):bt.le σ (r i) (aX n (CZ r) (nV r) i):=by
 unfold QJ at h
 split at h
 ·rename_i k f a b c d e
  simp only[bf]at h
  obtain⟨g,l⟩:=h
  cases dE g
  unfold aX CZ nV
  rw[e]
  exact⟨⟨rfl,rfl,λj m=>by rw[kZ l j m];exact ep _ _ _⟩,rfl,rfl,rfl,rfl,rfl,rfl,rfl,rfl,trivial⟩
 ·cases h
def C0{n m:Nat}{r:Nat->List AV}(h:wT n m r=true):x_ (λl=>l) (.ab m 9 r) (.ab m 9 (aX n (CZ r) (nV r))):=⟨rfl,rfl,λi hi=>G4 (List.all_eq_true.1 h i (List.mem_range.2 hi)) _⟩
def y0(n m:Nat)(K:Nat->Nat->Int)(S:Nat->Nat->List UInt8):wT n m (aX n K S)=true:=List.all_eq_true.2 λi _=>by
 show(i_ n n&&bA n (ae (K i)))=true
 rw[ni,dy];rfl
def Ft(m:Nat)(S:Nat->Nat->List UInt8):Bool:=(a_ m).all λi=>bJ (S i 0) (S i 1)&&bJ (S i 2) (S i 3)
def QK{m:Nat}{S:Nat->Nat->List UInt8}(h:Ft m S=true):uZ m S:=λi hi=>by
 have:=List.all_eq_true.1 h i (List.mem_range.2 hi)
 simpa only[bf]using this
def WZ:aC PP II:=aC.l8 42
 (λX args b=>match args with
  |[.agg cs,.ab m 9 r]=>match toQ cs with
   |some q=>X.ak (oA cs&&wT q.ng m r&&Ft m (nV r)&&o_ m 1000000) (b (.ab (ju q m (nV r)) 9 (aX q.ng (λj=>CZ r (cS q m (nV r) j)) λj=>nV r (cS q m (nV r) j))))
   |none=>X.fail
  |_=>X.fail)
 λX sem hX args b h=>by
  split at h
  ·split at h
   ·rename_i q c
    obtain⟨a,d⟩:=hX.ak _ _ h
    simp only[bf]at a
    refine⟨_,d,λ_=>rfl,λσ=>?_,af.dA (Us (n:=q.ng) (K:=CZ _) (jX a.2) (QK a.1.2)) (toQ_le c a.1.1.1) (C0 a.1.1.2)⟩
    show [AV.bD σ (.agg _),_]=_
    rw[nU c];rfl
   ·exact zR
  ·exact zR
def Ts{m n:Nat}{K:Nat->Nat->Int}{S:Nat->Nat->List UInt8}(d:m<=1000000)(hn:n<=1000000):af PP II 29 [.ab m 9 (aX n K S),.ab m 9 (aX n K S)] (g_ 12) (.ret (.bool true) (g_ 12)):=by
 have key:=aE.of (ι:=Nat) iw [Rg] (bm PP II []) 1000 (c:=aD II 77 4001) (ir:=false) 12 (λj=>j<=m) (λj=>V5 m n K S (j:Int)) (λ_=>V6) (λj=>m-j) (λj=>j+1) 0 A (b_ _) λj e=>?_
 ·refine bY (ks:=[Rg]) (T:=[(4001,12,V5 m n K S 0,V6)]) (λ_=>rfl) ?_
  rw[Tq]
  exact wA A ⟨key,YG A ⟨eP _ _ _ _,YG A ⟨eP _ _ _ _,Zf A A⟩⟩⟩
 have go:∀(i:Int)(Q:Prop),i=(j:Int)->(j<m->Q)->kr [Rg] [] 77 4001 12 (V5 m n K S) (λ_=>V6) (λj=>j+1) Q i:=λi Q hi hQ=>by
  rw[OJ]
  have f:z m=(m:Int):=rfl
  have a:∀s:List UInt8,m_ s s=true:=λs=>beq_self_eq_true (α:=List UInt8) s
  rw[a,a,a,a]
  refine Zg (λh=>?_) λ_=>trivial
  have ha:(M (0<=i)&&M (i<z m))=true:=by simp only[bf,bn];omega
  refine cC _ _ ha (cC _ _ ha (cC _ _ (by rw[dy,kV hn,ni];simp) ?_))
  show B _ _
  refine cC _ _ (aq O O) ?_
  exact YG A ⟨eP _ _ _ _,YG A ⟨eP _ _ _ _,Zf A (Zf A (hQ O))⟩⟩
 exact go (j:Int) _ A λb=>⟨b,O,rfl⟩
def Vg(n:Nat):aC PP II:=aC.pure 29
 (λX args s=>match args with
  |[.ab m 9 r,.ab p 9 g]=>X.ak (wT n m r&&wT n p g&&i_ m p&&o_ m 1000000&&o_ n 1000000&&(a_ m).all λi=>((a_ n).all λk=>M (CZ r i k=CZ g i k))&&M (nV r i 0=nV g i 0)&&M (nV r i 1=nV g i 1)&&M (nV r i 2=nV g i 2)&&M (nV r i 3=nV g i 3)) (s (.bool true))
  |_=>X.fail)
 λX sem hX args s h=>by
  split at h
  ·rename_i m r p g
   obtain⟨t,w⟩:=hX.ak _ _ h
   simp only[bf]at t
   obtain⟨⟨⟨⟨⟨a1,a2⟩,x⟩,a4⟩,y⟩,C⟩:=t
   cases dE x
   refine⟨_,w,λ_=>rfl,λ_=>rfl,af.dA (Ts (K:=CZ r) (S:=nV r) (jX a4) (jX y)) (C0 a1) ⟨rfl,rfl,λi hi=>?_⟩⟩
   have e:=List.all_eq_true.1 C i (List.mem_range.2 hi)
   simp only[bf,bn,s_,List.mem_range]at e
   obtain⟨⟨⟨⟨D,E⟩,F⟩,G⟩,H⟩:=e
   have l:=G4 (List.all_eq_true.1 a2 i (List.mem_range.2 hi)) (λl=>l)
   have:aX n (CZ r) (nV r) i=[.ab n 1 (ae (CZ r i)),.str (nV g i 0),.str (nV g i 1),.str (nV g i 2),.str (nV g i 3),.str [48],.str [49],.str [48],.str [49]]:=by
    show [_,_,_,_,_,_,_,_,_]=_
    rw[E,F,G,H]
   rw[this]
   have l:bt.le (λl=>l) (g i) [.ab n 1 (ae (CZ g i)),.str (nV g i 0),.str (nV g i 1),.str (nV g i 2),.str (nV g i 3),.str [48],.str [49],.str [48],.str [49]]:=l
   have q:∀k,k<n->ae (CZ g i) k=ae (CZ r i) k:=λk q=>by
    show [t_ d_ (CZ g i k)]=[t_ d_ (CZ r i k)]
    rw[D k q]
   have o:=List.all_eq_true.1 a2 i (List.mem_range.2 hi)
   unfold QJ at o
   split at o
   ·rename_i k f a b c d I
    rw[I]at l⊢
    obtain⟨⟨u,J,L⟩,N⟩:=l
    exact⟨⟨u,J,λj v=>by rw[<-q j (u▸v)];exact L j v⟩,N⟩
   ·cases o
  ·exact zR
end
end
end Go.Sx
