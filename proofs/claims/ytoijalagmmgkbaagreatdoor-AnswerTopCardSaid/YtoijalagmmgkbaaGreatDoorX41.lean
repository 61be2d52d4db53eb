/- The proof of a statement of the seat, part 41. -/
import Derived.Test.YtoijalagmmgkbaaGreatDoorX40
import Derived.Test.YtoijalagmmgkbaaGreatDoorX39
import Derived.OpenShut
import Derived.ReadAgain
import Derived.ChangeStays
import Derived.ChangeSame
import Derived.Deep.Slices
import Derived.Test.YtoijalagmmgkbaaGreatDoorX07
import Derived.Test.YtoijalagmmgkbaaGreatDoorX05
import Derived.Test.YtoijalagmmgkbaaGreatDoorX03
set_option linter.all false
set_option linter.defProp false
set_option maxRecDepth 1000000
namespace Go.Sx
open Go
open Decidable renaming decide->B
open Int renaming ofNat->z,toNat->b_,tdiv->f_
open Go.IntKind renaming i64->a_
open List renaming getD_eq_getElem?_getD->c_,mem_cons_of_mem->e_,getElem?_drop->g_,mem_cons_self->h_,map_cons->j_,getElem?_take_of_lt->k_,take_append_drop->l_,mem_append_right->m_,mem_append_left->n_,length_take->o_,map_nil->s_,range->v_
open Option renaming some->d_,none->w_
open Nat renaming blt->i_,add_assoc->r_,zero_add->t_,succ_mul->u_,ble->x_
noncomputable section
def Il(q:Query)(t:Int):Query:=⟨q.nw,q.C,q.ng,q.G,q.a,q.fl,q.nu,q.de,t⟩
structure zU (b:Query) (nw:Nat) (f:Nat->List AV):Prop where
 n:nw=b.nw
 fr:∀i,i<nw->∃a,a<b.nw/\f i=au b.C a
 bk:∀a,a<b.nw->∃i,i<nw/\f i=au b.C a
def zU.self(q:Query):zU q q.nw (au q.C):=⟨rfl,λi hi=>⟨i,hi,rfl⟩,λj a=>⟨j,a,rfl⟩⟩
def Ls{q:Query}{nw:Nat}{f:Nat->List AV}(h:zU q nw f)(t:Int):Alike (Il q t) (Sr nw f q.ng (aR q.G) q.a q.fl q.nu q.de t) where
 ng:=rfl
 G:=rfl
 a:=rfl
 fl:=rfl
 nu:=rfl
 de:=rfl
 ok x d:=by
  have row:∀i j,f i=au q.C j->gG (Sr nw f q.ng (aR q.G) q.a q.fl q.nu q.de t) x d i=gG (Il q t) x d j:=λi j e=>by
   unfold gG
   show Nn (bV (f i) 1) (gJ x (bV (f i) 0) d) (bV (f i) 2)=_
   rw[e];rfl
  refine Bool.eq_iff_iff.2 ?_
  rw[K4,K4]
  refine and_congr_right λ_=>⟨λk i hi=>?_,λk j b=>?_⟩
  ·obtain⟨j,b,e⟩:=h.fr i hi
   rw[row i j e];exact k j b
  ·obtain⟨i,hi,e⟩:=h.bk j b
   rw[<-row i j e];exact k i hi
def QI{q:Query}{nw:Nat}{f:Nat->List AV}(h:zU q nw f){t:Int}(u:ct (Il q t)=true){k:Nat}{F:Nat->ay}(g:cX k F=true){l:Int->Nat}{m:Int->Nat->Nat->Int}{o:Int->Nat->Nat->List UInt8}
  (v:r8 (Il q t) k F=l t) (w:FM (Il q t) k F=m t) (x:oU (Il q t) k F=o t):
  Ik l m o nw f q.ng (aR q.G) q.a q.fl q.nu q.de t k (λi=>aF (F i))=true:=by
 obtain⟨y,D,b⟩:=qP u
 have E:aI 3 nw f=true:=List.all_eq_true.2 λi hi=>by
  obtain⟨j,d,e⟩:=h.fr i (List.mem_range.1 hi)
  rw[e];exact c7 y d
 have p:eU (Sr nw f q.ng (aR q.G) q.a q.fl q.nu q.de t)=true:=by
  obtain⟨_,c⟩:=fQ b
  unfold eU at b⊢
  simp only[bf]at b⊢
  refine⟨⟨⟨⟨⟨?_,b.1.1.1.1.2⟩,?_⟩,b.1.1.2⟩,b.1.2⟩,b.2⟩
  ·have:=b.1.1.1.1.1
   show B (nw<=6)=true
   rw[h.n];exact this
  ·refine List.all_eq_true.2 λi hi=>?_
   obtain⟨j,d,e⟩:=h.fr i (List.mem_range.1 hi)
   have:=c j d
   show(B (1<=bV (f i) 0)&&B (bV (f i) 0<=8)&&B (1<=bV (f i) 1)&&B (bV (f i) 1<=4)&&B (-1<=bV (f i) 2)&&B (bV (f i) 2<=4398046511104))=true
   rw[e]
   show(B (1<=q.C j 0)&&B (q.C j 0<=8)&&B (1<=q.C j 1)&&B (q.C j 1<=4)&&B (-1<=q.C j 2)&&B (q.C j 2<=4398046511104))=true
   simp only[bf,bn]
   obtain⟨⟨a1,a2⟩,⟨H,a4⟩,I,J⟩:=this
   exact⟨⟨⟨⟨⟨a1,a2⟩,H⟩,a4⟩,I⟩,J⟩
 obtain⟨r1,r,s⟩:=S1 (Ls h t) rfl b p (k:=k) (F:=F) (jR g)
 rw[v]at r1
 rw[w]at r
 rw[x]at s
 exact Lu.2 ⟨⟨E,D,p,gr k F,g⟩,r1.symm,r.symm,s.symm⟩
def TC{q p:Query}(h:Alike q p)(ht:q.top=p.top)(e:eU q=true)(f:eU p=true){k:Nat}{F:Nat->ay}(g:∀j,j<k->bB (F j)=true)(D:Nat->Int):sb q k F D=sb p k F D/\FV q k F D=FV p k F D/\xm q k F D=xm p k F D:=by
 have t:=zO h e f F k g
 obtain⟨_,_,a1,a2⟩:=Pb h
 obtain⟨a,_,_⟩:=Hp h
 obtain⟨l,c⟩:=Sy ht
 have m:uG q F D=uG p F D:=by funext T j;exact h.ok _ _
 have n:Rb q D=Rb p D:=by funext L T j;unfold Rb;rw[h.fl]
 have d:jy q F D=jy p F D:=by
  funext X i k
  unfold jy yd uq
  rw[a1,a2,m,n]
 have b:Bf q F D=Bf p F D:=by funext X;unfold Bf;rw[h.ng,d]
 refine⟨?_,?_,?_⟩
 ·unfold sb;rw[t,a,b,l]
 ·funext j;unfold FV;rw[t,a,b,c]
 ·funext j;unfold xm;rw[t,a,b,c,d]
def Ss{q:Query}{nw:Nat}{f:Nat->List AV}(h:zU q nw f){t:Int}(l:ct (Il q t)=true){k:Nat}{F:Nat->ay}(m:cX k F=true){D:Nat->Int}(n:tp k F D=true){o:Int->Nat}{p:Int->Nat->Nat->Int}{r:Int->Nat->Nat->List UInt8}{c:(Nat->Int)->Nat}{d:(Nat->Int)->Nat->Nat->Int}{e:(Nat->Int)->Nat->Nat->List UInt8}
  (b:Ik o p r nw f q.ng (aR q.G) q.a q.fl q.nu q.de t k (λi=>aF (F i))=true) (s:sb (Il q t) k F D=c D) (u:FV (Il q t) k F D=d D) (v:xm (Il q t) k F D=e D):
  Ps c d e nw f q.ng (aR q.G) q.a q.fl q.nu q.de t k (λi=>aF (F i)) k (ae D)=true:=by
 have b:=(Lu.1 b).1
 obtain⟨r1,g,j⟩:=TC (Ls h t) rfl (qP l).2.2 b.2.2.1 (jR m) D
 rw[s]at r1
 rw[u]at g
 rw[v]at j
 exact P3.2 ⟨b,⟨rfl,kc _ _,n⟩,r1.symm,g.symm,j.symm⟩
def uu(X:Nat->Nat->Int)(j:Nat):(1<=cW X j 0/\cW X j 0<=8)/\(1<=cW X j 1/\cW X j 1<=4)/\(-1<=cW X j 2/\cW X j 2<=38):=by
 have a:=cj (c:=X j 0) (n:=11) O
 have b:=cj (c:=X j 1) (n:=4) O
 have d:=cj (c:=X j 2) (n:=40) O
 refine⟨?_,?_,?_⟩
 ·show 1<=ma (X j 0)/\ma (X j 0)<=8
  unfold ma
  split
  ·omega
  ·rename_i h;have:=of_decide_eq_false h;omega
 ·show 1<=1+av (X j 1) 4/\1+av (X j 1) 4<=4;omega
 ·show -1<=av (X j 2) 40-1/\av (X j 2) 40-1<=38;omega
def xA{l m:List Int}{i:Nat}{d:Int}(h:i<l.length):(l++m).getD i d=l.getD i d:=by
 rw[c_,c_,List.getElem?_append_left h]
def qQ(p:Int):∀(k i:Nat),i<(bM p k).length->(1<=(bM p k).getD i 0/\(bM p k).getD i 0<=(k:Int))/\(i=0∨(bM p k).getD (i-1) 0<(bM p k).getD i 0)
 |0,i,h=>by simp[bM]at h
 |k+1,i,h=>by
  have b:=qQ p k
  unfold bM at h⊢
  split at h
  ·rename_i c
   simp only[List.length_append,List.length_singleton]at h
   by_cases e:i<(bM p k).length
   ·have:=b i e
    rw[xA e]
    refine⟨O,?_⟩
    rcases this.2 with a|a
    ·exact .inl a
    ·right;rw[xA O];exact a
   ·have d:i=(bM p k).length:=by omega
    have el:(bM p k++[(k:Int)+1]).getD i 0=(k:Int)+1:=by
     rw[d,c_,List.getElem?_append_right (dw _),Nat.sub_self];rfl
    rw[el]
    refine⟨O,?_⟩
    by_cases a:i=0
    ·exact .inl a
    ·right
     have:=b (i-1) O
     rw[xA O]
     omega
  ·rename_i c
   have:=b i h
   refine⟨O,this.2⟩
def OO{k:Nat}(h:k<11):oa (wy k) (wz k)=true:=List.any_eq_true.2 ⟨k,List.mem_range.2 h,zA⟩
def OP(agg:Int)(n:Nat)(X:Nat->Nat->Int)(g top:Int):eU (cJ agg n X g top)=true:=by
 have k:=qQ (av g 64) 6
 have hl:=rH (av g 64) 6
 have s:=cj (c:=agg) (n:=5) O
 have t:=cj (c:=f_ agg 5) (n:=2) O
 have l:=cj (c:=f_ agg 10) (n:=11) O
 have ht:=cj (c:=top) (n:=5) O
 unfold eU
 simp only[bf,bn]
 refine⟨⟨⟨⟨⟨?_,hl⟩,?_⟩,?_⟩,?_⟩,?_⟩
 ·show min n 6<=6;omega
 ·refine List.all_eq_true.2 λj _=>?_
  have:=uu X j
  show(B (1<=cW X j 0)&&B (cW X j 0<=8)&&B (1<=cW X j 1)&&B (cW X j 1<=4)&&B (-1<=cW X j 2)&&B (cW X j 2<=4398046511104))=true
  simp only[bf,bn]
  omega
 ·refine List.all_eq_true.2 λj m=>?_
  have:=k j (List.mem_range.1 m)
  show(B (1<=(bM (av g 64) 6).getD j 0)&&B ((bM (av g 64) 6).getD j 0<=6)&&(Nat.beq j 0||B ((bM (av g 64) 6).getD (j-1) 0<(bM (av g 64) 6).getD j 0)))=true
  rw[bW this.1.1,bW (show(bM (av g 64) 6).getD j 0<=6 from this.1.2),Bool.true_and,Bool.true_and]
  rcases this.2 with h|h
  ·rw[h];rfl
  ·rw[bW h,Bool.or_true]
 ·show(B (0<=(cJ agg n X g top).top)&&B ((cJ agg n X g top).top<=100)&&(B ((cJ agg n X g top).top<=0)||i_ 0 (bM (av g 64) 6).length))=true
  have e:(cJ agg n X g top).top=match B (z (bM (av g 64) 6).length>0)with|true=>av top 5|false=>0:=rfl
  rw[e]
  cases d:B (z (bM (av g 64) 6).length>0)with
  |true=>
   have d:=pT d
   have:0<(bM (av g 64) 6).length:=by
    have:((bM (av g 64) 6).length:Int)>0:=d
    omega
   simp only
   rw[bW (O:0<=av top 5),bW (O:av top 5<=100),eV this,Bool.or_true];rfl
  |false=>rfl
 ·unfold EV
  have o:(cJ agg n X g top).a=1+av agg 5:=rfl
  have p:(cJ agg n X g top).fl=match B (1+av agg 5>1)with|true=>7+av (f_ agg 5) 2|false=>0:=rfl
  have q:(cJ agg n X g top).nu=match B (1+av agg 5=5)with|true=>wy (b_ (av (f_ agg 10) 11))|false=>[]:=rfl
  have r:(cJ agg n X g top).de=match B (1+av agg 5=5)with|true=>wz (b_ (av (f_ agg 10) 11))|false=>[]:=rfl
  rw[o,p,q,r]
  generalize av agg 5=a at*
  have b:(B (7+av (f_ agg 5) 2=7)||B (7+av (f_ agg 5) 2=8))=true:=by
   simp only[Bool.or_eq_true,bn];omega
  have:a=0∨a=4∨(1<=a/\a<=3):=O
  rcases this with rfl|rfl|h
  ·rfl
  ·have f:B ((1:Int)+4>1)=true:=rfl
   have i:B ((1:Int)+4=5)=true:=rfl
   rw[f,i]
   simp only
   rw[b,OO O]
   simp
  ·have f:B (1+a>1)=true:=bW O
   have i:B (1+a=5)=false:=nZ O
   rw[f,i]
   simp only
   rw[b,bW (O:2<=1+a),bW (O:1+a<=4)]
   simp
def J8(agg:Int)(n:Nat)(X:Nat->Nat->Int)(g top:Int):aI 3 (cJ agg n X g top).nw (au (cJ agg n X g top).C)=true:=by
 refine List.all_eq_true.2 λj _=>?_
 have:=uu X j
 show(aN a_ (cW X j 0)&&(aN a_ (cW X j 1)&&(aN a_ (cW X j 2)&&true)))=true
 rw[aq O O,aq O O,aq O O];rfl
def J9(agg:Int)(n:Nat)(X:Nat->Nat->Int)(g top:Int):aI 1 (cJ agg n X g top).ng (aR (cJ agg n X g top).G)=true:=by
 refine List.all_eq_true.2 λj a=>?_
 have:=qQ (av g 64) 6 j (List.mem_range.1 a)
 show(aN a_ ((bM (av g 64) 6).getD j 0)&&true)=true
 rw[aq O O];rfl
def RM(q:Query)(n:Nat)(F:Nat->ay):r8 q n F<=n:=by
 have h:=(lG q F n).len
 unfold r8 ju
 split
 ·exact h
 ·exact Nat.le_trans (jV _ _) h
def UZ{k:Nat}{F:Nat->ay}(h:∀j,j<k->bB (F j)=true)(n:Nat)(W:Nat->Int):tp k F (mY F n W)=true/\(Dl k λi=>aF (F i))=true:=by
 have b:∀j,j<k->0<=(F j).l/\(F j).l<=(F j).h/\(F j).h<=4398046511104:=λj a=>(jx (h j a)).1
 refine⟨List.all_eq_true.2 λj a=>?_,List.all_eq_true.2 λj a=>?_⟩
 ·obtain⟨a1,a2,d⟩:=b j (List.mem_range.1 a)
  simp only[bf,bn]
  unfold mY
  split
  ·omega
  ·have:=cj (c:=W (j%n)) (n:=(F j).h-(F j).l+1) O
   omega
 ·obtain⟨a1,a2,d⟩:=b j (List.mem_range.1 a)
  show(B (0<=(F j).l)&&B ((F j).l<=(F j).h)&&B ((F j).h<=4398046511104))=true
  simp only[bf,bn]
  omega
def RO(C:Nat->Nat->Int)(a b:Nat)(i:Nat):List AV:=bif i_ i a then au C (b+i)else au C (i-a)
def R4{q:Query}{s:Nat}(a:s<=q.nw):zU q q.nw (RO q.C (q.nw-s) s) where
 n:=rfl
 fr i hi:=by
  unfold RO
  by_cases h:i<q.nw-s
  ·rw[eV h];exact⟨s+i,O,rfl⟩
  ·rw[js h];exact⟨i-(q.nw-s),O,rfl⟩
 bk j b:=by
  unfold RO
  by_cases h:s<=j
  ·exact⟨j-s,O,by rw[eV (O:j-s<q.nw-s),show s+(j-s)=j by omega];rfl⟩
  ·exact⟨j+(q.nw-s),O,by rw[js (O:¬ j+(q.nw-s)<q.nw-s),show j+(q.nw-s)-(q.nw-s)=j by omega];rfl⟩
def U6{q:Query}{k:Nat}{F:Nat->ay}{D:Nat->Int}(r:ct q=true)(p:cX k F=true)(N:tp k F D=true)(hB:(Dl k λi=>aF (F i))=true)(n:Nat)(X:Nat->Nat->Int)(m:Nat)(C:Nat->Nat->Int)(agg g top fC:Int)(w:Nat)(W:Nat->Int)
  (Z:aI 3 m (au C)=true) (ha:aN a_ agg=true) (hg:aN a_ g=true) (ht:aN a_ top=true) (hX:aI 6 n (fm X)=true) (hW:intsIn w (ae W)=true) (hT:aN a_ fC=true)
  (em:cJ agg (min m 3) (bG (au C)) g top=q) (ek:mZ n (bG (fm X))=k) (eF:oW n (bG (fm X))=F) (eD:mY F w W=D) (b:Int->Nat) (d:Int->Nat->Nat->Int) (l:Int->Nat->Nat->List UInt8) (o:(Nat->Int)->Nat) (u:(Nat->Int)->Nat->Nat->Int) (v:(Nat->Int)->Nat->Nat->List UInt8)
  (x:∀t,r8 (Il q t) k F=b t) (y:∀t,FM (Il q t) k F=d t) (E:∀t,oU (Il q t) k F=l t) (Q:sb (Il q 0) k F D=o D) (e5:FV (Il q 0) k F D=u D) (R:xm (Il q 0) k F D=v D):
  jE [S7,OE q,Hz k F,VJ b d l,v8 18 (.inl A),S8 D,Sz o u v,Vq q.ng] (mG PP II [(17004,44,Vf q q.ng (b q.top) (b 0) (o D) (d q.top) (d 0) (u D) (l q.top) (l 0) (v D) (zM (il q (aV q F k).length (yc q (og q (aV q F k))))) 0,Vg q.ng (b q.top) (d q.top) (l q.top) (b q.top))]) 1000 8 [.agg [.int a_ agg,.az m 3 (au C),.int a_ g,.int a_ top],.az n 6 (fm X),.az w 1 (ae W),.int a_ fC] Hm (λa H=>aa (x_ 14 H.n) (a= .bool true)) (λ_ _=>False):=by
 have hk:=jS p
 have h3:=Xs r
 have T:=jR p
 have J:=(qP r).2.2
 have L:ct (Il q 0)=true:=P4 r
 have U:=(qP L).2.2
 have hl:=(lG q F k).len
 have l1:b 0=(aV q F k).length:=by rw[<-x];exact(SC J U T).1
 have l2:o D=(aV q F k).length:=by rw[<-Q];exact(SF J U T).1
 have l3:b q.top<=k:=by rw[<-x];exact RM _ k F
 have tk:=VO (D:=D) r p (pM N)
 have lp:gW PP II false (aD II 8 17004) 44 (Vf q q.ng (b q.top) (b 0) (o D) (d q.top) (d 0) (u D) (l q.top) (l 0) (v D) (zM (il q (aV q F k).length (yc q (og q (aV q F k))))) 0) (Vg q.ng (b q.top) (d q.top) (l q.top) (b q.top)):=by
  rw[l1,l2,<-x q.top,<-y q.top,<-E q.top,<-y 0,<-E 0,<-R]
  exact U5 tk h3 O
 have V:=QI (zU.self q) L p (x 0) (y 0) (E 0)
 have r1:∀{nw f},zU q nw f->Ik b d l nw f q.ng (aR q.G) q.a q.fl q.nu q.de q.top k (λi=>aF (F i))=true:=λh=>QI (t:=q.top) h r p (x _) (y _) (E _)
 have tr:Ps o u v q.nw (au q.C) q.ng (aR q.G) q.a q.fl q.nu q.de 0 k (λi=>aF (F i)) k (ae D)=true:=Ss (zU.self q) L p N V Q e5 R
 obtain⟨s,Y,es⟩:∃s:Nat,s<=q.nw/\av fC (z q.nw+1)=(s:Int):=by
  have:=cj (c:=fC) (n:=z q.nw+1) (by have:z q.nw=(q.nw:Int):=rfl;omega)
  have en:z q.nw=(q.nw:Int):=rfl
  exact⟨(av fC (z q.nw+1)).toNat,O,O⟩
 have hw:q.nw<=6:=(fQ J).1
 have en:z q.nw=(q.nw:Int):=rfl
 rw[Vh,es]
 have same:(B (z (b 0)=z (o D)))=true:=by rw[l1,l2];exact bW A
 have rr:=λn K S=>eP n q.ng K S
 have tail:∀{P:Prop},P->P:=λh=>h
 have c1:((((fh k λi=>aF (F i))&&Dl k λi=>aF (F i))&&intsIn w (ae W)&&x_ k 1000000&&zr D (bP λi=>aF (F i)) w (ae W)):Bool)=true:=by
  rw[gr,hB,hW,kV (O:k<=1000000),OI eD];rfl
 refine cC _ _ (Bl A A A A A A A A) (cC _ _ (by rw[Z,ha,hg,ht,J3 em];rfl) (cC _ _ (by rw[hX,OG ek eF];rfl) (cC _ _ (r1 (zU.self q)) (cC _ _ (aq O O) (cC _ _ (by rw[hT,bW (O:(0:Int)<z q.nw+1)];rfl) (cC _ _ (by simp only[bf,bn];omega) (cC _ _ (by simp only[bf,bn];exact⟨O,trivial⟩) ?_)))))))
 have I:(B ((0:Int)<=(s:Int))&&B ((s:Int)<=z q.nw))=true:=by simp only[bf,bn];omega
 refine Zg (λh0=>cC _ _ zA (cC _ _ I (cC _ _ I (cC _ _ zA (cC _ _ (by simp only[bf,bn];exact⟨O,trivial⟩) (Zg (λh1=>cC _ _ (r1 ⟨O,λi hi=>absurd hi (lZ _),λj M=>absurd M O⟩) ?_) λh1=>cC _ _ ?_ (cC _ _ (r1 ?_) ?_))))))) λh0=>cC _ _ zA (cC _ _ I (cC _ _ I (cC _ _ zA (cC _ _ ?_ (cC _ _ ?_ (cC _ _ (r1 ?_) ?_))))))
 rotate_left 1
 ·simp only[bf,bn,dw,and_true]
  exact List.all_eq_true.2 λi _=>by rw[js (lZ i)];rfl
 ·have:=R4 Y
  have e:(0+b_ ((s:Int)-0))=q.nw:=O
  rw[e]
  refine⟨rfl,λi hi=>?_,λj M=>?_⟩
  ·rw[js (lZ i)];exact⟨0+(i-0),O,rfl⟩
  ·exact⟨j,M,by rw[js (lZ j)];show au q.C (0+(j-0))=_;rw[show 0+(j-0)=j by omega]⟩
 rotate_left 1
 ·have e:(0+b_ (z q.nw-(s:Int))+b_ ((s:Int)-0))=q.nw:=by omega
  rw[e]
  simp only[bf,bn,dw,and_true,true_and]
  omega
 ·simp only[bf,bn,dw,and_true]
  refine List.all_eq_true.2 λi _=>?_
  rw[js (lZ i)]
  cases i_ i (0+b_ (z q.nw-(s:Int)))<;>rfl
 ·have:=R4 Y
  have e:(0+b_ (z q.nw-(s:Int))+b_ ((s:Int)-0))=q.nw:=O
  rw[e]
  have e':(λi=>bif i_ i (0+b_ (z q.nw-(s:Int)))then bif i_ i 0 then List.take 3 (List.drop (0+i*3) [])else au q.C (b_ (s:Int)+(i-0))else au q.C (0+(i-(0+b_ (z q.nw-(s:Int))))))=RO q.C (q.nw-s) s:=funext λi=>by
   unfold RO
   rw[js (lZ i),show 0+b_ (z q.nw-(s:Int))=q.nw-s by omega,show b_ (s:Int)=s from rfl,t_]
   show(bif i_ i (q.nw-s)then au q.C (s+(i-0))else au q.C (0+(i-(q.nw-s))))=_
   rw[Nat.sub_zero,t_]
  rw[e']
  exact this
 all_goals
  refine cC _ _ V (cC _ _ c1 (cC _ _ zA (cC _ _ tr (cC _ _ ?_ (wA (pT same) ⟨lp,YG A ⟨bC _ _,YG A ⟨bO _ _,Zf A (Zf A (Zi A (Zi A (Zf A (Zf A (YG A ⟨rr _ _ _,rfl,YG A ⟨rr _ _ _,YG A ⟨rr _ _ _,?_⟩⟩⟩))))))⟩⟩⟩)))))
  ·simp only[bf]
   exact⟨⟨⟨⟨⟨Jv _ _ _ _,Jv _ _ _ _⟩,ni _⟩,kV O⟩,kV O⟩,List.all_eq_true.2 λi _=>zA⟩
  ·exact congrArg AV.bool (bW A)
def Vn{n:Nat}{X:Nat->Nat->Int}{m:Nat}{C:Nat->Nat->Int}{agg g top fC:Int}{w:Nat}{W:Nat->Int}(d:aI 3 m (au C)=true)(ha:aN a_ agg=true)(e:aN a_ g=true)(ht:aN a_ top=true)(hX:aI 6 n (fm X)=true)(f:intsIn w (ae W)=true)(i:aN a_ fC=true):
  af PP II 8 [.agg [.int a_ agg,.az m 3 (au C),.int a_ g,.int a_ top],.az n 6 (fm X),.az w 1 (ae W),.int a_ fC] Hm (.ret (.bool true) (AH.blank 14)):=by
 have b:=JW n (bG (fm X))
 obtain⟨d1,j⟩:=UZ (jR b) w W
 have h:=U6 (q:=cJ agg (min m 3) (bG (au C)) g top) (by unfold ct;rw[J8,J9,OP];rfl) b d1 j n X m C agg g top fC w W d ha e ht hX f i A A A A _ _ _ (sb _ _ _) (FV _ _ _) (xm _ _ _) (λ_=>rfl) (λ_=>rfl) (λ_=>rfl) A A A
 obtain⟨o,c,k⟩:=fJ iw _ (bm PP II _) 1000 8 _ Hm _ _ h
 cases o with
 |ret a H1=>
  obtain⟨p,k1⟩:=Zk c
  have k1:a= .bool true:=k1
  subst k1
  exact k.le (ky.of [] (im.of A A A A p (gS.2 λl _=>trivial)) A)
 |qt a H1=>exact c.elim
section
open Go.ChangeShapes Go.WideShapes Go.Deep
section
variable {H:Type} {enc:TypeId×Value->H} {P:Program} {W:World} {sp:Nat->Bool} {held:Bool}
def kU(W a:World):Prop:=a.os=W.os/\a.output=W.output/\∀i,i<W.heap.size->a.heap[i]? =W.heap[i]?
theorem kU.same{a:World}(h:kU W a){p:MemPlace}(c:p.block<W.heap.size):W.sameAt a p:=by
 cases p with
 |cell b off=>show a.cell? _=W.cell? _;unfold World.cell?;rw[h.2.2 b c]
 |map b=>exact h.2.2 b c
theorem kU.frozen{a:World}(h:kU W a){b off:Nat}(c:b<W.heap.size):a.frozen? ⟨b,off,w_⟩=W.frozen? ⟨b,off,w_⟩:=by
 unfold World.frozen?
 rw[h.2.2 b c]
end
end
section
open Go.ChangeShapes Go.WideShapes Go.Deep
def RP(m:Nat)(X:Nat->Nat->Int)(j:Nat):List AV:=(v_ m).map λk=> .int a_ (X j k)
def xB(ρ:Env)(W:World):Prop := ∀b cs el fr,W.heap[b]? =d_ (.cells cs el fr)->ρ.fz b=d_ cs.toList
section
variable {H:Type} {enc:TypeId×Value->H} {P:Program} {W:World} {sp:Nat->Bool} {held:Bool}
theorem xC{a:Int}(h:(Lit.int a_ a).wf=true):aN a_ a=true:=by
 unfold aN
 rw[Km,Km]
 exact h
theorem zx{ρ:Env}:∀{m:Nat}{us:List Value}{x:Nat->Int},us.length=m->(∀k,k<m->us[k]? =d_ (.int a_ (x k)))->aU ρ ((v_ m).map λk=> .int a_ (x k)) us
 |0,us,x,hl,_=>by
  have:us=[]:=List.length_eq_zero_iff.1 hl
  subst this;exact A
 |m+1,us,x,hl,h=>by
  match us,hl,h with
  |u::us,hl,h=>
   have a:=h 0 O
   simp only[List.getElem?_cons_zero,fE]at a
   rw[List.range_succ_eq_map,j_,List.map_map]
   refine⟨u,us,rfl,a,zx (m:=m) (x:=λk=>x (k+1)) (by simpa using hl) λk b=>?_⟩
   have:=h (k+1) O
   simpa using this
theorem zy{ρ:Env}(J:xB ρ W){t e i m:Nat}{fuel:Nat}{v:Value}{x:DataW H×List MemPlace}(ht:P.underlying t=d_ (.slice e))(V:P.underlying e=d_ (.array m i))(hi:P.underlying i=d_ (.int a_))(Y:P.cellsOf i=1)(Z:P.cellsOf e=m)(hm:0<m)
  (h:DataW.trod enc P W 0 sp held fuel t [v]=d_ x):∃(n:Nat)(X:Nat->Nat->Int),VR ρ (.az n m (RP m X)) v/\∀j,j<n->∀k,k<m->aN a_ (X j k)=true:=by
 rcases open_slice ht h with⟨h0,_⟩|⟨a,len,cap,mm,nn,D,Pl,hv,_,hl,_,K,_,hx⟩
 ·cases h0
  refine⟨0,λ_ _=>0,?_,λj f=>absurd f (lZ _)⟩
  simp[VR]
 ·cases hv
  have ab:len<=mm:=by rw[K];split<;>omega
  rw[Z]at hx
  by_cases E:len=0
  ·subst E
   refine⟨0,λ_ _=>0,?_,λj f=>absurd f (lZ _)⟩
   simp only[VR]
   exact .inr ⟨0,0,cap,a,λ_=>[],rfl,hl,λh=>absurd h (HD _)⟩
  ·have cells:∀j k,j<len->k<m->∃d,W.cell? (a.add (j*m+k))=d_ (.int a_ d)/\aN a_ d=true:=by
    intro j k f g
    obtain⟨L,G,M⟩:=hx j O
    obtain⟨_,o,hc⟩:=World.cells?_some G
    obtain⟨xs,m',_,_,_,_,N⟩:=DataW.trod_array V M
    have r:=N k g
    rw[Y,Nat.mul_one]at r
    have Q:k<xs.length:=O
    rw[mo Q]at r
    obtain⟨d,R,_,S⟩:=DataW.trod_int hi r
    have T:L[k]? =d_ (.int a_ d):=by
     have:=congrArg (·[0]?) R
     simpa [List.getElem?_take,g_]using this
    refine⟨d,?_,xC S⟩
    rw[<-add_add,hc k g];exact T
   let X:Nat->Nat->Int:=λj k=>match W.cell? (a.add (j*m+k))with|some (.int a_ d)=>d|_=>0
   have hX:∀j k,j<len->k<m->W.cell? (a.add (j*m+k))=d_ (.int a_ (X j k))/\aN a_ (X j k)=true:=by
    intro j k f g
    obtain⟨d,G,M⟩:=cells j k f g
    have:X j k=d:=by simp only[X];rw[G]
    rw[this];exact⟨G,M⟩
   have p:=(hX 0 0 O hm).1
   have ea:a.add (0*m+0)=a:=by simp[Addr.add]
   rw[ea]at p
   obtain⟨b,off,q⟩:=a
   have w:q=w_/\∃cs el fr,W.heap[b]? =d_ (.cells cs el fr):=by
    unfold World.cell? at p
    split at p
    ·rename_i c el fr I
     cases q with
     |none=>exact⟨rfl,c,el,fr,I⟩
     |some s=>simp at p
    ·cases p
   obtain⟨rfl,cs,el,fr,I⟩:=w
   have y:∀j k,j<len->k<m->cs.toList[off+(j*m+k)]? =d_ (.int a_ (X j k)):=by
    intro j k f g
    have:=(hX j k f g).1
    have e1:(Addr.mk b off w_).add (j*m+k)=⟨b,off+(j*m+k),w_⟩:=by
     unfold Addr.add
     by_cases E:j*m+k=0
     ·rw[if_pos E,E];rfl
     ·rw[if_neg E]
    rw[e1]at this
    simp only[World.cell?,I,Option.isSome_none,kH,if_false]at this
    simpa using this
   have C:off+len*m<=cs.toList.length:=by
    have:=(List.getElem?_eq_some_iff.1 (y (len-1) (m-1) O O)).1
    have e2:(len-1)*m+m=len*m:=by
     obtain⟨l,rfl⟩:∃l,len=l+1:=⟨len-1,O⟩
     rw[Nat.add_sub_cancel,u_]
    omega
   refine⟨len,X,?_,λj f k g=>(hX j k f g).2⟩
   simp only[VR]
   refine .inr ⟨b,off,cap,⟨b,off,w_⟩,λj=>(cs.toList.drop (off+j*m)).take m,rfl,hl,λ_=>⟨rfl,⟨?_,cs.toList.take off,cs.toList.drop (off+len*m),by rw[o_];omega,?_⟩,λj f=>?_⟩⟩
   ·intro u U
    obtain⟨j,f,U⟩:=List.mem_flatMap.1 U
    have f:=List.mem_range.1 f
    obtain⟨k,g⟩:=List.mem_iff_getElem?.1 U
    have F:k<m:=by
     have:=(List.getElem?_eq_some_iff.1 g).1
     simp at this;omega
    rw[k_ F,g_,r_,y j k f F]at g
    cases g;rfl
   ·rw[J b cs el fr I,rq C,<-List.drop_drop]
    rw[List.append_assoc,l_,l_]
   ·have o:((cs.toList.drop (off+j*m)).take m).length=m:=by
     have:j*m+m<=len*m:=by
      have:=Nat.mul_le_mul_right m (show j+1<=len from f)
      rw[u_]at this;exact this
     simp only[o_,List.length_drop];omega
    refine⟨o,zx o λk g=>?_⟩
    rw[k_ g,g_,r_]
    exact y j k f g
theorem zz{d:World}{a:Nat->Bool}{T:TypeId->Prop}(K:Kids P T)(f:∀{t e:TypeId},T t->P.underlying t=d_ (.slice e)->0<P.cellsOf e):∀{c:List TypeId}{vs:List Value}{ds:List (DataW H)}{b:List MemPlace},(∀t∈c,T t)->
  DataW.TrodAll enc P W 0 (λ_=>true) true c vs ds b->(∀p∈b,W.sameAt d p)->(∀p∈b,a p.block=true)->DataW.TrodAll enc P d 0 a true c vs ds b
 |[],[],[],_,_,h,_,_=>h
 |_::_,_::_,_::_,_,g,⟨p,q,⟨n,h1⟩,k,e⟩,i,j=>⟨p,q,⟨n,DataW.trod_stays K f (λh=>zE) (g _ (List.mem_cons.2 (.inl A))) h1 (λx hx=>i x (by rw[e];exact n_ _ hx)) (λx hx=>j x (by rw[e];exact n_ _ hx))⟩,
   zz K f (λt ht=>g t (List.mem_cons.2 (.inr ht))) k (λx hx=>i x (by rw[e];exact m_ _ hx)) (λx hx=>j x (by rw[e];exact m_ _ hx)),e⟩
theorem kU.Y6{b:World}(h:kU W b)(a:MemPlace->Prop):W.keptBut b a:=by
 refine⟨h.1,h.2.1,λi hi=>?_⟩
 rw[h.2.2 i hi]
 cases hw:W.heap[i]? with
 |none=>trivial
 |some o=>cases o<;>first|exact⟨rfl,rfl,rfl,λ_ _=>rfl⟩|exact .inr ⟨rfl,rfl⟩|rfl
theorem Ka{l:World}{f:Func}{s:ChangeSpec}{apart fresh a h:Bool}{args:Array Value}{v:Value}{ds gs:List (DataW H)}{before:List MemPlace}{T:TypeId->Prop}(K:Kids P T)(G:∀{t e:TypeId},T t->P.underlying t=d_ (.slice e)->0<P.cellsOf e)(I:∀t∈f.params.toList,T t)
  (c:s.vars=[]) (u:DataW.Whole enc P f.params.toList s.vars apart W args.toList ds gs before) (w:kU W l)
  (g:∀(b:Nat)(sp:Nat->Bool)(J:Bool),DataW.TrodAll enc P l b sp J f.resultTypes.toList (v.resultList f.resultTypes.size) (s.fn H (ds++gs)).results [])
  (x:(s.fn H (ds++gs)).args=ds) (y:(s.fn H (ds++gs)).vars=gs)
  (C:∀(j:Nat)(t:TypeId)(r:Value),f.resultTypes[j]? =d_ t->(v.resultList f.resultTypes.size)[j]? =d_ r->Value.okWide P l .any 0 t r):
  s.post enc P f apart fresh a h W args v l:=by
 have i:=u.lt
 have D:=u
 obtain⟨N,O,hA,F,m,E,L⟩:=u
 rw[c]at F
 obtain⟨rfl,rfl⟩:=trodVars_none F
 rw[List.append_nil]at m
 subst m
 have d:∀sp:Nat->Bool,(∀p∈before,sp p.block=true)->DataW.TrodAll enc P l 0 sp true f.params.toList args.toList (s.fn H (ds++[])).args before:=λsp M=>by
  rw[x];exact zz K G I hA (λp k=>w.same (i p k)) M
 have n:∀sp:Nat->Bool,DataW.TrodVars enc P l sp s.vars (s.fn H (ds++[])).vars []:=λsp=>by rw[c,y];exact A
 have o:∀p∈before,(λb=>B (b<W.heap.size)) p.block=true:=λp k=>by simpa using i p k
 refine⟨ds,[],before,[],before,[],D,g _ _ _,d _ o,n _,w.Y6 _,λ_=>?_⟩
 refine⟨C,_,_,([]++before)++[],⟨[]++before,[],trodAll_append (d _ (λ_ _=>rfl)) (g _ _ _),n _,rfl,?_,?_⟩,?_⟩
 ·intro b off k
  have q:MemPlace.cell b off∈before:=by simpa using k
  rw[w.frozen (b:=b) (off:=off) (i _ q)]
  exact E b off q
 ·intro ha
  simpa using L ha
 ·intro p k _
  simpa using k
end
end
def HB{a:TypeDesc}{b:Value}:∀{l:List MapEntry}{j i:Nat}{v:Value},Instr.findNow a b l j=d_ (d_ (i,v))->∃x∈l,Instr.sameNow a b x.key=d_ true/\v=x.val
 |[],_,_,_,h=>by simp[Instr.findNow]at h
 |x::l,j,i,v,h=>by
  unfold Instr.findNow at h
  split at h
  ·rename_i c
   simp only[fE,Prod.mk.injEq]at h
   exact⟨x,h_,c,h.2.symm⟩
  ·obtain⟨y,d,e,f⟩:=HB h
   exact⟨y,e_ _ d,e,f⟩
  ·cases h
def RQ{b:TypeDesc}{c:Value}{n:Int}(h:Instr.sameNow b c (.int a_ n)=d_ true):∃q,b= .int q/\c= .int a_ n:=by
 cases b<;>cases c<;>simp[Instr.sameNow]at h
 rename_i q k a
 obtain⟨rfl,rfl⟩:=h
 exact⟨q,rfl,rfl⟩
def Gx{q:IntKind}{n:Int}{u:Value}:∀{l:List MapEntry}(_:∀x∈l,∃m,x.key= .int a_ m)(_:∀x∈l,x.key= .int a_ n->x.val=u)(j:Nat)(_:∃x∈l,x.key= .int a_ n),∃i,Instr.findNow (.int q) (.int a_ n) l j=d_ (d_ (i,u))
 |[],_,_,_,h=>by obtain⟨x,hx,_⟩:=h;cases hx
 |x::l,h1,d,j,f=>by
  obtain⟨m,b⟩:=h1 x h_
  unfold Instr.findNow
  by_cases e:n=m
  ·subst e
   rw[b]
   simp only[Instr.sameNow,if_true,beq_self_eq_true]
   exact⟨j,by rw[d x h_ b]⟩
  ·rw[b]
   have:(n==m)=false:=by simpa using e
   simp only[Instr.sameNow,if_true,this]
   refine Gx (λy a=>h1 y (e_ _ a)) (λy a=>d y (e_ _ a)) (j+1) ?_
   obtain⟨y,a,c⟩:=f
   rcases List.mem_cons.1 a with rfl|a
   ·rw[b]at c;cases c;exact absurd A e
   ·exact⟨y,a,c⟩
def F1{b ms:List MapEntry}(a:∀x∈b,x∈ms)(f:∀x∈ms,∃n,x.key= .int a_ n)(j:∀x∈ms,∀y∈ms,x.key=y.key->x.val=y.val):so b ms:=by
 intro l m i v h
 obtain⟨x,c,g,rfl⟩:=HB h
 obtain⟨n,d⟩:=f x (a x c)
 rw[d]at g
 obtain⟨q,rfl,rfl⟩:=RQ g
 exact Gx f (λy k e=>j y k x (a x c) (by rw[e,d])) 0 ⟨x,a x c,d⟩
def OS{ms:List MapEntry}{V:Nat->Value}(d:∀x∈ms,∃i:Nat,i<5/\x.key= .int a_ ((i:Int)+1)/\x.val=V i)(b:∀i:Nat,i<5->∃x∈ms,x.key= .int a_ ((i:Int)+1)):
  ∃a:List MapEntry,a.map (·.key)=[.int a_ 1,.int a_ 2,.int a_ 3,.int a_ 4,.int a_ 5]/\a.map (·.val)=[V 0,V 1,V 2,V 3,V 4]/\so a ms:=by
 have val:∀i:Nat,i<5->∀x∈ms,x.key= .int a_ ((i:Int)+1)->x.val=V i:=λi hi x hx e=>by
  obtain⟨j,_,c,f⟩:=d x hx
  rw[c]at e
  have:(j:Int)+1=(i:Int)+1:=by injection e
  have:j=i:=O
  rw[f,this]
 obtain⟨g,q,h⟩:=b 0 O
 obtain⟨k,r,k1⟩:=b 1 O
 obtain⟨l,s,k2⟩:=b 2 O
 obtain⟨m,t,n⟩:=b 3 O
 obtain⟨o,u,p⟩:=b 4 O
 refine⟨[g,k,l,m,o],?_,?_,F1 (λx hx=>?_) (λx hx=>?_) λx hx y v e=>?_⟩
 ·simp only[j_,s_,h,k1,k2,n,p];rfl
 ·simp only[j_,s_,val 0 O g q h,val 1 O k r k1,val 2 O l s k2,val 3 O m t n,val 4 O o u p]
 ·simp only[List.mem_cons,List.not_mem_nil,or_false]at hx
  rcases hx with rfl|rfl|rfl|rfl|rfl<;>assumption
 ·obtain⟨i,_,c,_⟩:=d x hx
  exact⟨_,c⟩
 ·obtain⟨i,hi,c,f⟩:=d x hx
  rw[f,val i hi y v (by rw[<-e,c])]
end
end Go.Sx
