/- The proof of a statement of the seat, part 40. -/
import Derived.Test.YtoijalagmmgkbaaGreatDoorX39
import Derived.Test.YtoijalagmmgkbaaGreatDoorX38
import Derived.Test.YtoijalagmmgkbaaGreatDoorX36
set_option linter.all false
set_option linter.defProp false
section
set_option maxRecDepth 100000
namespace Go.Sx
open Go Go.Sort Go.Shelf Go.Proofs
theorem OL(p:Nat->Bool)(k:Nat):((List.range k).filter p).Pairwise (· < ·):=List.Pairwise.filter p List.pairwise_lt_range
theorem tD{p:Nat->Bool}{k j:Nat}(a:j<aP p k):∃h:j<((List.range k).filter p).length,eQ p k j=((List.range k).filter p)[j]:=⟨a,by
 unfold eQ
 rw[List.getD_eq_getElem?_getD,mo a];rfl⟩
theorem DA{p:Nat->Bool}{k j:Nat}(a:j<aP p k):eQ p k j<k/\p (eQ p k j)=true:=by
 obtain⟨h,e⟩:=tD a
 have:=List.getElem_mem h
 rw[<-e]at this
 obtain⟨b,c⟩:=List.mem_filter.1 this
 exact⟨List.mem_range.1 b,c⟩
theorem DB{p:Nat->Bool}{k i j:Nat}(a:j<aP p k)(hi:i<j):eQ p k i<eQ p k j:=by
 obtain⟨h,e⟩:=tD a
 obtain⟨b,c⟩:=tD (O:i<aP p k)
 rw[e,c]
 exact List.pairwise_iff_getElem.1 (OL p k) i j b h hi
theorem J5(p:Nat->Bool)(k m:Nat):aP p k<=aP p (k+m):=by
 unfold aP
 rw[List.range_add,List.filter_append,List.length_append]
 exact Nat.le_add_right _ _
theorem zu{p:Nat->Bool}{k m:Nat}(h:k<=m):aP p k<=aP p m:=by
 have:=J5 p k (m-k)
 rwa[show k+(m-k)=m by omega]at this
theorem RJ{p:Nat->Bool}{k m:Nat}(a:m<k)(h:p m=true):aP p m<aP p k:=by
 have:=zu (p:=p) (O:m+1<=k)
 rw[iE h]at this
 omega
theorem OM{p r:Nat->Bool}{k:Nat}(h:∀i,i<k->p i=true->r i=true):aP p k<=aP r k:=by
 unfold aP
 rw[<-List.countP_eq_length_filter,<-List.countP_eq_length_filter]
 exact List.countP_mono_left λi hi=>h i (List.mem_range.1 hi)
def il(q:Query)(m:Nat)(S:Nat->Nat->List UInt8)(i:Nat):Bool:=if q.top=0 then true else cQ q m S i
theorem DC(k:Nat):aP (λ_=>true) k=k:=by
 unfold aP
 rw[List.filter_eq_self.2 λ_ _=>rfl,List.length_range]
theorem J6{k j:Nat}(a:j<k):eQ (λ_=>true) k j=j:=by
 have:=wS (p:=λ_=>true) a A
 rwa[DC]at this
theorem xz(q:Query)(m:Nat)(S:Nat->Nat->List UInt8):ju q m S=aP (il q m S) m:=by
 unfold ju
 by_cases h:q.top=0
 ·rw[if_pos h,show il q m S=λ_=>true from funext λi=>if_pos h,DC]
 ·rw[if_neg h,show il q m S=cQ q m S from funext λi=>if_neg h]
theorem nX(q:Query)(m:Nat)(S:Nat->Nat->List UInt8){j:Nat}(a:j<ju q m S):cS q m S j=eQ (il q m S) m j:=by
 unfold ju at a
 unfold cS
 by_cases h:q.top=0
 ·rw[if_pos h]at a⊢
  rw[show il q m S=λ_=>true from funext λi=>if_pos h,J6 a]
 ·rw[if_neg h,show il q m S=cQ q m S from funext λi=>if_neg h]
theorem ON{q:Query}{m:Nat}{S T:Nat->Nat->List UInt8}(h:∀i a,i<m->a<m->xY S i a=true->xY T i a=true)(i:Nat)(hi:i<m)(k:il q m T i=true):il q m S i=true:=by
 unfold il at*
 by_cases e:q.top=0
 ·rw[if_pos e]
 ·rw[if_neg e]at k⊢
  unfold cQ at*
  rw[bn]at k⊢
  have:=OM (p:=xY S i) (r:=xY T i) (k:=m) λa ha=>h i a hi ha
  omega
theorem RL{q:Query}{m:Nat}{K:Nat->Nat->Int}{S T b d:Nat->Nat->List UInt8}
  (apart:∀i j,i<m->j<m->i≠j->A9 q.ng (K i) (K j)=false)
  (t:∀i,i<m->bJ (S i 0) (S i 1)=true/\bJ (S i 2) (S i 3)=true) (ht:∀i,i<m->bJ (T i 0) (T i 1)=true) (one:∀i,T i 2=T i 0/\T i 3=T i 1)
  (n:∀i,i<m->lY (tv (S i 0,S i 1)) (tv (T i 0,T i 1))/\lY (tv (T i 0,T i 1)) (tv (S i 2,S i 3)))
  (r:∀i,b i 0=S i 0/\b i 1=S i 1/\b i 2=S i 2/\b i 3=S i 3) (s:∀i,d i 0=T i 0/\d i 1=T i 1/\d i 2=T i 2/\d i 3=T i 3):
  Fits q.ng (ju q m b) (ju q m d) (λj=>K (cS q m b j)) (λj=>K (cS q m d j)) (λj=>S (cS q m b j)) (λj=>T (cS q m d j)) (λi=>aP (il q m b) (cS q m d i)):=by
 have pos:∀i,i<m->0<(tv (T i 0,T i 1)).2:=λi hi=>by
  have:=ht i hi
  unfold bJ at this
  simp only[bf]at this
  have:=this.1.2
  rw[Nat.blt_eq]at this
  exact this
 have sub:∀i,i<m->il q m d i=true->il q m b i=true:=ON λi a hi ha h=>by
  unfold xY at*
  obtain⟨s0,u,_,_⟩:=r a
  obtain⟨_,_,v,w⟩:=r i
  obtain⟨x,t1,_,_⟩:=s a
  obtain⟨_,_,t2,y⟩:=s i
  obtain⟨C,D⟩:=one i
  rw[s0,u,v,w]at h
  rw[x,t1,t2,y,C,D]
  rw[bn]at h⊢
  refine Int.not_le.1 λc=>absurd (xw.2 ?_) (Int.not_le.2 h)
  exact lY.trans (pos a ha) (n a ha).1 (lY.trans (pos i hi) (xw.1 c) (n i hi).2)
 have f:∀i,i<ju q m d->cS q m d i<m/\il q m b (cS q m d i)=true:=λi hi=>by
  have h:=hi
  rw[xz]at h
  have:=DA h
  rw[<-nX q m d hi]at this
  exact⟨this.1,sub _ this.1 this.2⟩
 have l:∀i,i<ju q m b->cS q m b i<m:=λi hi=>by
  have h:=hi
  rw[xz]at h
  rw[nX q m b hi]
  exact(DA h).1
 have k:∀i,i<ju q m d->aP (il q m b) (cS q m d i)<ju q m b:=λi hi=>by
  rw[xz q m b]
  exact RJ (f i hi).1 (f i hi).2
 have g:∀i,i<ju q m d->cS q m b (aP (il q m b) (cS q m d i))=cS q m d i:=λi hi=>by
  rw[nX q m b (k i hi)]
  exact wS (f i hi).1 (f i hi).2
 exact {
  lt:=k
  mono:=λi hi=>by
   refine zu (Nat.le_of_lt ?_)
   have h:=hi
   rw[xz]at h
   rw[nX q m d hi,nX q m d (O:i<ju q m d)]
   exact DB h (Nat.lt_succ_self i)
  key:=λi hi=>by
   show A9 q.ng (K (cS q m b (aP (il q m b) (cS q m d i)))) (K (cS q m d i))=true
   rw[g i hi]
   exact List.all_eq_true.2 λ_ _=>bW A
  YM:=λi j hi E=>by
   have o:=k i hi
   have p:j<aP (il q m b) (cS q m d i):=E
   have e:=g i hi
   refine apart _ _ (l j O) (f i hi).1 λc=>?_
   rw[<-e,nX q m b o,nX q m b (O:j<ju q m b)]at c
   rw[xz]at o
   have:=DB o p
   omega
  one:=λi hi=>one _
  ra:=λi hi=>t _ (l i hi)
  rb:=λi hi=>ht _ (f i hi).1
  lo:=λi hi=>by
   show bw (ao (S (cS q m b (aP (il q m b) (cS q m d i))) 0)) (ao (S (cS q m b (aP (il q m b) (cS q m d i))) 1)) _ _<=0
   rw[g i hi]
   exact xw.2 (n _ (f i hi).1).1
  hi:=λi hi=>by
   show 0<=bw (ao (S (cS q m b (aP (il q m b) (cS q m d i))) 2)) (ao (S (cS q m b (aP (il q m b) (cS q m d i))) 3)) _ _
   rw[g i hi]
   exact FW.2 (n _ (f i hi).1).2}
theorem J7{q:Query}{k:Nat}{F:Nat->ay}(i j:Nat)(hi:i<(aV q F k).length)(l:j<(aV q F k).length)(b:i≠j):
  A9 q.ng (dK (og q (aV q F k)) i) (dK (og q (aV q F k)) j)=false:=by
 have c:=tj q F k
 have pl:=Dd q.ng (aV q F k).length (fj q.ng (aV q F k))
 have f:=u4 q.ng (aV q F k).length (fj q.ng (aV q F k)) hi
 have g:=u4 q.ng (aV q F k).length (fj q.ng (aV q F k)) l
 have nd:(lW q.ng (aV q F k).length (fj q.ng (aV q F k))).Nodup:=((List.mergeSort_perm _ _).nodup_iff).2 List.nodup_range
 have m:(lW q.ng (aV q F k).length (fj q.ng (aV q F k))).getD i 0≠(lW q.ng (aV q F k).length (fj q.ng (aV q F k))).getD j 0:=λe=>by
  rw[List.getD_eq_getElem?_getD,List.getD_eq_getElem?_getD,mo (O:i<_),mo (O:j<_)]at e
  rcases Nat.lt_or_gt_of_ne b with h|h
  ·exact List.pairwise_iff_getElem.1 nd i j O O h e
  ·exact List.pairwise_iff_getElem.1 nd j i O O h e.symm
 cases he:A9 q.ng (dK (og q (aV q F k)) i) (dK (og q (aV q F k)) j)with
 |false=>rfl
 |true=>
  refine absurd ?_ (c.apart _ _ f g m)
  have n:∀a,a<q.ng->(og q (aV q F k) i).W a=(og q (aV q F k) j).W a:=λa ha=>pT (List.all_eq_true.1 he a (List.mem_range.2 ha))
  rw[c.key _ f,c.key _ g]
  have d:∀a,(bif Nat.blt a q.ng then(og q (aV q F k) i).W a else 0)=bif Nat.blt a q.ng then(og q (aV q F k) j).W a else 0:=λa=>by
   cases h:Nat.blt a q.ng with
   |false=>rfl
   |true=>rw[Nat.blt_eq]at h;exact n a h
  show [bif Nat.blt 0 q.ng then(og q (aV q F k) i).W 0 else 0,bif Nat.blt 1 q.ng then(og q (aV q F k) i).W 1 else 0,bif Nat.blt 2 q.ng then(og q (aV q F k) i).W 2 else 0]=[bif Nat.blt 0 q.ng then(og q (aV q F k) j).W 0 else 0,bif Nat.blt 1 q.ng then(og q (aV q F k) j).W 1 else 0,bif Nat.blt 2 q.ng then(og q (aV q F k) j).W 2 else 0]
  rw[d 0,d 1,d 2]
def Xv(q:Query)(k:Nat)(F:Nat->ay)(D:Nat->Int)(i:Nat):Nat:=aP (il q (aV q F k).length (yc q (og q (aV q F k)))) (cS q (aV q F k).length (Bf q F D (og q (aV q F k))) i)
theorem contains{q:Query}{k:Nat}{F:Nat->ay}{D:Nat->Int}(hq:ct q=true)(b:cX k F=true)(c:r9 k F D):
  Fits q.ng (r8 q k F) (sb q k F D) (FM q k F) (FV q k F D) (oU q k F) (xm q k F D) (Xv q k F D):=by
 have d:=jR b
 have a:=(mY hq).2.2
 have hX:=tm a b
 have e:∀i,i<(aV q F k).length->oc q F k (og q (aV q F k) i):=λi hi=>Ho q F k hi
 refine RL (K:=dK (og q (aV q F k))) (S:=jC q (og q (aV q F k))) (T:=jy q F D (og q (aV q F k))) J7 (λi hi=>?_) (λi hi=>?_) (λi=>⟨rfl,rfl⟩) (λi hi=>?_) (λi=>⟨rfl,rfl,rfl,rfl⟩) λi=>⟨rfl,rfl,rfl,rfl⟩
 ·obtain⟨f,g,h⟩:=hX i hi
  exact⟨y7 f g a,y8 f h a⟩
 ·exact cz (xl a d c (e i hi) (hX i hi).1) a
 ·exact Rp a d c (e i hi)
end Go.Sx
end
section
set_option maxRecDepth 100000
namespace Go.Sx
open Go
structure Alike (c p:Query):Prop where
 ng:c.ng=p.ng
 G:c.G=p.G
 a:c.a=p.a
 fl:c.fl=p.fl
 nu:c.nu=p.nu
 de:c.de=p.de
 ok:∀x b,qS c x b=qS p x b
theorem Alike.symm{q p:Query}(h:Alike q p):Alike p q:=⟨h.ng.symm,h.G.symm,h.a.symm,h.fl.symm,h.nu.symm,h.de.symm,λx d=>(h.ok x d).symm⟩
theorem OI(W:Nat->Int):∀k,0<k->∃j,j<k/\jc W k=W j
 |1,_=>⟨0,O,by show(if W 0<W 0 then W 0 else W 0)=_;split<;>rfl⟩
 |k+2,_=>by
  obtain⟨j,a,e⟩:=OI W (k+1) O
  show ∃j,j<k+2/\(if W (k+1)<jc W (k+1)then W (k+1)else jc W (k+1))=W j
  split
  ·exact⟨k+1,O,rfl⟩
  ·exact⟨j,O,e⟩
theorem Sv{q:Query}{x:ay}{j:Nat}(a:j<jQ q x):qS q x (fT q x j)=true:=by
 refine QP (k:=3*(q.nw+2)) ?_
 unfold fT
 rw[List.getD_eq_getElem?_getD,mo a]
 exact List.getElem_mem _
theorem Sw{q:Query}{x:ay}{d:Int}(h:qS q x d=true):x.l<=d/\d<=x.h:=(Il.1 h).1
theorem least_le{q:Query}{x:ay}{d:Int}(hq:eU q=true)(h:qS q x d=true):jc (fT q x) (jQ q x)<=d:=by
 have:=Sw h
 obtain⟨m,a,b⟩:=Ov hq (d-x.l).toNat d O h
 exact Int.le_trans (Du _ _ _ a) b
theorem Sy{q:Query}{x:ay}{d:Int}(hq:eU q=true)(h:qS q x d=true):d<=cG (fT q x) (jQ q x):=by
 have:=Sw h
 obtain⟨m,a,b⟩:=Hs hq (x.h-d).toNat d O h
 exact Int.le_trans b (xu _ _ _ a)
theorem Ls{q:Query}{x:ay}(hq:eU q=true)(a:gk q x=true):qS q x (jc (fT q x) (jQ q x))=true:=by
 obtain⟨j,b,e⟩:=OI (fT q x) _ (wX hq a)
 rw[e];exact Sv b
theorem P4{q:Query}{x:ay}(hq:eU q=true)(a:gk q x=true):qS q x (cG (fT q x) (jQ q x))=true:=by
 obtain⟨j,b,e⟩:=pH (fT q x) _ (wX hq a)
 rw[e];exact Sv b
theorem RD{q p:Query}{x:ay}(h:Alike q p)(hq:eU q=true)(c:eU p=true)(hx:bB x=true):gk q x=gk p x/\kR q x=kR p x/\lJ q x=lJ p x/\Br q x=Br p x:=by
 have b:gk q x=gk p x:=Bool.eq_iff_iff.2 ((Ke hq).trans (Iff.trans (by simp only[h.ok]) (Ke c).symm))
 have d:jA q x=jA p x:=Bool.eq_iff_iff.2 ((K4 hq hx).trans (Iff.trans (by simp only[h.ok]) (K4 c hx).symm))
 refine⟨b,?_,?_,by unfold Br;rw[b,d]⟩
 ·unfold kR
  rw[b,d,h.a,h.fl]
  cases hm:gk p x with
  |false=>rfl
  |true=>
   rw[hm]at b
   have:jc (fT q x) (jQ q x)=jc (fT p x) (jQ p x):=Int.le_antisymm (least_le hq ((h.ok _ _).trans (Ls c hm))) (least_le c ((h.ok _ _).symm.trans (Ls hq b)))
   rw[this]
 ·unfold lJ
  rw[b,d,h.a,h.fl]
  cases hm:gk p x with
  |false=>rfl
  |true=>
   rw[hm]at b
   have:cG (fT q x) (jQ q x)=cG (fT p x) (jQ p x):=Int.le_antisymm (Sy c ((h.ok _ _).symm.trans (P4 hq b))) (Sy hq ((h.ok _ _).trans (P4 c hm)))
   rw[this]
theorem Dl{q p:Query}(h:Alike q p)(hq:eU q=true)(a:eU p=true)(F:Nat->ay):∀i,(∀j,j<i->bB (F j)=true)->aV q F i=aV p F i
 |0,_=>rfl
 |i+1,b=>by
  obtain⟨c,d,e,f⟩:=RD h hq a (b i (Nat.lt_succ_self i))
  show km q (aV q F i) i (F i)=km p (aV p F i) i (F i)
  rw[Dl h hq a F i λj k=>b j O]
  have k1:bc q (F i)=bc p (F i):=by unfold bc;rw[h.G]
  have g:FA q (F i)=FA p (F i):=by unfold FA;rw[h.ng,k1]
  unfold km
  rw[c,d,e,f,k1,g]
theorem OJ{q p:Query}(h:Alike q p):eO q=eO p/\dQ q=dQ p/\c8 q=c8 p/\da q=da p:=by
 obtain⟨nw,C,ng,G,a,fl,nu,de,top⟩:=q
 obtain⟨c,o,d,r,a',e,f,g,b⟩:=p
 obtain⟨i,j,k,l,m,n,_⟩:=h
 cases i;cases j;cases k;cases l;cases m;cases n
 exact⟨rfl,rfl,rfl,rfl⟩
theorem Lt{q p:Query}(h:Alike q p):og q=og p/\jC q=jC p/\yc q=yc p:=by
 obtain⟨b,c,_,_⟩:=OJ h
 have a:jC q=jC p:=by
  funext X i k
  unfold jC
  rw[b,c]
 refine⟨by funext gs i;unfold og;rw[h.ng],a,by funext X;unfold yc;rw[h.ng,a]⟩
theorem Sz{q p:Query}(h:q.top=p.top):ju q=ju p/\cS q=cS p:=by
 have e:cQ q=cQ p:=by funext m S i;unfold cQ;rw[h]
 constructor
 ·funext m S;unfold ju;rw[h,e]
 ·funext m S j;unfold cS;rw[h,e]
theorem TD{q p:Query}(h:Alike q p)(ht:q.top=p.top)(hq:eU q=true)(d:eU p=true){k:Nat}{F:Nat->ay}(e:∀j,j<k->bB (F j)=true):r8 q k F=r8 p k F/\FM q k F=FM p k F/\oU q k F=oU p k F:=by
 have t:=Dl h hq d F k e
 obtain⟨a,f,b⟩:=Lt h
 obtain⟨g,c⟩:=Sz ht
 refine⟨?_,?_,?_⟩
 ·unfold r8;rw[t,a,b,g]
 ·funext j;unfold FM;rw[t,a,b,c]
 ·funext j;unfold oU;rw[t,a,f,b,c]
end Go.Sx
end
section
set_option maxRecDepth 1000000
namespace Go.Sx
open Go
def R4(nw:Nat)(f:Nat->List AV)(ng:Nat)(g:Nat->List AV)(a fl:Int)(nu de:List UInt8)(top:Int):Query:=⟨nw,bG f,ng,λj=>bV (g j) 0,a,fl,nu,de,top⟩
def V2(RN:Int->Nat)(RA:Int->Nat->Nat->Int)(RB:Int->Nat->Nat->List UInt8)(nw:Nat)(f:Nat->List AV)(ng:Nat)(g:Nat->List AV)(a fl:Int)(nu de:List UInt8)(top:Int)(k:Nat)(h:Nat->List AV):Prop :=
 (aI 3 nw f=true/\aI 1 ng g=true/\eU (R4 nw f ng g a fl nu de top)=true/\fh k h=true/\cX k (bP h)=true)/\r8 (R4 nw f ng g a fl nu de top) k (bP h)=RN top/\FM (R4 nw f ng g a fl nu de top) k (bP h)=RA top/\oU (R4 nw f ng g a fl nu de top) k (bP h)=RB top
open Classical in
noncomputable def OK(RN:Int->Nat)(RA:Int->Nat->Nat->Int)(RB:Int->Nat->Nat->List UInt8)(nw:Nat)(f:Nat->List AV)(ng:Nat)(g:Nat->List AV)(a fl:Int)(nu de:List UInt8)(top:Int)(k:Nat)(h:Nat->List AV):Bool:=decide (V2 RN RA RB nw f ng g a fl nu de top k h)
open Classical in
theorem JW{RN:Int->Nat}{RA:Int->Nat->Nat->Int}{RB:Int->Nat->Nat->List UInt8}{nw:Nat}{f:Nat->List AV}{ng:Nat}{g:Nat->List AV}{a fl:Int}{nu de:List UInt8}{top:Int}{k:Nat}{h:Nat->List AV}:OK RN RA RB nw f ng g a fl nu de top k h=true↔V2 RN RA RB nw f ng g a fl nu de top k h:=by
 unfold OK
 exact decide_eq_true_iff
theorem U7{nw:Nat}{f:Nat->List AV}{ng:Nat}{g:Nat->List AV}{a fl:Int}{nu de:List UInt8}{top:Int}(a1:aI 3 nw f=true)(a2:aI 1 ng g=true)(b:eU (R4 nw f ng g a fl nu de top)=true):
  toQ [.az nw 3 f,.az ng 1 g,.int .i64 a,.int .i64 fl,.str nu,.str de,.int .i64 top]=some (R4 nw f ng g a fl nu de top)/\gn [.az nw 3 f,.az ng 1 g,.int .i64 a,.int .i64 fl,.str nu,.str de,.int .i64 top]=true/\ct (R4 nw f ng g a fl nu de top)=true:=by
 have hq:toQ [.az nw 3 f,.az ng 1 g,.int .i64 a,.int .i64 fl,.str nu,.str de,.int .i64 top]=some (R4 nw f ng g a fl nu de top):=rfl
 have hi:gn [.az nw 3 f,.az ng 1 g,.int .i64 a,.int .i64 fl,.str nu,.str de,.int .i64 top]=true:=by
  show(aI 3 nw f&&aI 1 ng g)=true
  rw[a1,a2];rfl
 obtain⟨r1,c⟩:=rN hq hi
 exact⟨hq,hi,by unfold ct;rw[r1,c,b];rfl⟩
noncomputable def V3(RN:Int->Nat)(RA:Int->Nat->Nat->Int)(RB:Int->Nat->Nat->List UInt8):aC PP II:=aC.s9 13
 (λX args b=>match args with
  |[.agg [.az nw 3 f,.az ng 1 g,.int .i64 a,.int .i64 fl,.str nu,.str de,.int .i64 top],.az k 10 h]=>X.ak (OK RN RA RB nw f ng g a fl nu de top k h) (b (.bK [.az (RN top) 9 (aX ng (RA top) (RB top)),.int .i64 0]))
  |_=>X.fail)
 λX sem hX args b h=>by
  split at h
  ·rename_i nw f ng g a fl nu de top k o
   obtain⟨d,c⟩:=hX.ak _ _ h
   obtain⟨⟨a1,a2,e,a4,i⟩,j,l,m⟩:=JW.1 d
   obtain⟨hq,hi,n⟩:=U7 a1 a2 e
   rw[<-j,<-l,<-m]at c
   refine⟨_,c,λ_=>rfl,λσ=>?_,af.dA (A8 n i) (toQ_le hq hi) (fq a4)⟩
   show [AV.bD σ (.agg _),_]=_
   rw[nU hq];rfl
  ·exact zR
def V4(b:(Nat->Int)->Nat)(c:(Nat->Int)->Nat->Nat->Int)(e:(Nat->Int)->Nat->Nat->List UInt8)(nw:Nat)(f:Nat->List AV)(ng:Nat)(g:Nat->List AV)(a fl:Int)(nu de:List UInt8)(top:Int)(k:Nat)(h:Nat->List AV)(m:Nat)(d:Nat->List AV):Prop :=
 (aI 3 nw f=true/\aI 1 ng g=true/\eU (R4 nw f ng g a fl nu de top)=true/\fh k h=true/\cX k (bP h)=true)/\(m=k/\bA m d=true/\tp k (bP h) (aM d)=true)/\sb (R4 nw f ng g a fl nu de top) k (bP h) (aM d)=b (aM d)/\FV (R4 nw f ng g a fl nu de top) k (bP h) (aM d)=c (aM d)/\xm (R4 nw f ng g a fl nu de top) k (bP h) (aM d)=e (aM d)
open Classical in
noncomputable def OQ(b:(Nat->Int)->Nat)(c:(Nat->Int)->Nat->Nat->Int)(e:(Nat->Int)->Nat->Nat->List UInt8)(nw:Nat)(f:Nat->List AV)(ng:Nat)(g:Nat->List AV)(a fl:Int)(nu de:List UInt8)(top:Int)(k:Nat)(h:Nat->List AV)(m:Nat)(d:Nat->List AV):Bool:=decide (V4 b c e nw f ng g a fl nu de top k h m d)
open Classical in
theorem OR{b:(Nat->Int)->Nat}{c:(Nat->Int)->Nat->Nat->Int}{e:(Nat->Int)->Nat->Nat->List UInt8}{nw:Nat}{f:Nat->List AV}{ng:Nat}{g:Nat->List AV}{a fl:Int}{nu de:List UInt8}{top:Int}{k:Nat}{h:Nat->List AV}{m:Nat}{d:Nat->List AV}:OQ b c e nw f ng g a fl nu de top k h m d=true↔V4 b c e nw f ng g a fl nu de top k h m d:=by
 unfold OQ
 exact decide_eq_true_iff
noncomputable def QI(b:(Nat->Int)->Nat)(c:(Nat->Int)->Nat->Nat->Int)(e:(Nat->Int)->Nat->Nat->List UInt8):aC PP II:=aC.s9 14
 (λX args i=>match args with
  |[.agg [.az nw 3 f,.az ng 1 g,.int .i64 a,.int .i64 fl,.str nu,.str de,.int .i64 top],.az k 10 h,.az m 1 d]=>X.ak (OQ b c e nw f ng g a fl nu de top k h m d) (i (.bK [.az (b (aM d)) 9 (aX ng (c (aM d)) (e (aM d))),.int .i64 0]))
  |_=>X.fail)
 λX sem hX args i h=>by
  split at h
  ·rename_i nw f ng g a fl nu de top k w m d
   obtain⟨l,j⟩:=hX.ak _ _ h
   obtain⟨⟨a1,a2,n,a4,o⟩,⟨p,q,r⟩,s,t,u⟩:=OR.1 l
   subst p
   obtain⟨hq,hi,v⟩:=U7 a1 a2 n
   rw[<-s,<-t,<-u]at j
   refine⟨_,j,λ_=>rfl,λσ=>?_,af.nT (xn v o (pM r)) (toQ_le hq hi) (fq a4) (cy q)⟩
   show [AV.bD σ (.agg _),_,_]=_
   rw[nU hq];rfl
  ·exact zR
end Go.Sx
end
section
set_option maxRecDepth 1000000
namespace Go.Sx
open Go
noncomputable def hE(n:Nat)(a:List (Nat×bq)):AH:={n:=n,t:=Tr.ofList ([(0,.cells [.az 5 2 aA] .ro),(1,.cells [.str [48],.str [49]] .ro),(3,.cells [.map (some 13)] .ro),(6,.cells dz (.ex 20)),(13,.map lS)]++a)}
def QL(k:Nat)(F:Nat->ay)(a:Access):bq:=.rows k 10 (λj=>aF (F j)) a
noncomputable def V6(q:Query)(k M:Nat)(G:Int->Nat->ay)(P:Int->Int)(i:Int):St:={t:=Tr.ofList [(5,.bool true),(6,.ptr 15 0 0 0),(7,.own 16 k 10),(8,.int .i64 (P i)),(9,.int .i64 i)],nt:=220,H:=hE 17 [(15,.cells (aY q) (.ty 32)),(16,QL M (G i) (.ty 48))],df:=[]}
noncomputable def V7(q:Query)(k M:Nat)(F:Nat->ay)(p:Int):GE:=.one (.x 0 {t:=Tr.ofList [(5,.bool true),(6,.ptr 15 0 0 0),(7,.own 16 k 10),(8,.int .i64 p)],nt:=220,H:=hE 17 [(15,.cells (aY q) (.ty 32)),(16,QL M F (.ty 48))],df:=[]})
theorem Vq(q:Query)(k M:Nat)(G:Int->Nat->ay)(P:Int->Int)(F:Nat->ay)(p:Int)(i:Int)(Q:Prop):(kr [] [] 4 8004 17 (V6 q k M G P) (λ_=>V7 q k M F p) (λi=>i+1) Q i)=(let f:=((bif decide (i.toNat=i.toNat)then if ay.l (G i i.toNat)+3<ay.h (G i i.toNat)then ay.l (G i i.toNat)+3 else ay.h (G i i.toNat)else ay.h (G i i.toNat))-bif decide (i.toNat=i.toNat)then ay.l (G i i.toNat)else ay.l (G i i.toNat));let e:=(decide (0<=i)&&decide (i<Int.ofNat k));(ah (decide (i<Int.ofNat k)) (aa e (aa (decide (i.toNat<M)) (aa e (aa (decide (i.toNat<M)) (aa (aN .i64 (ay.l (G i i.toNat)+3)) (aa e (aa (decide (i.toNat<M)) (aa e (aa (decide (i.toNat<M)) (aa e (aa (decide (i.toNat<M)) (aa (aN .i64 f) (aa (aN .i64 (f+1)) (aa (aN .i64 (P i*(f+1))) (aa (aN .i64 (i+1)) (zyN M ((an M (λc=>[AV.int .i64 (bif decide (c=i.toNat)then ay.t (G i i.toNat)else(G i c).t),AV.int .i64 (bif decide (c=i.toNat)then ay.s (G i i.toNat)else(G i c).s),AV.int .i64 (bif decide (c=i.toNat)then ay.v (G i i.toNat)else(G i c).v),AV.int .i64 (bif decide (c=i.toNat)then ay.w (G i i.toNat)else(G i c).w),AV.int .i64 (bif decide (c=i.toNat)then ay.o (G i i.toNat)else(G i c).o),AV.int .i64 (bif decide (c=i.toNat)then ay.p (G i i.toNat)else(G i c).p),AV.int .i64 (bif decide (c=i.toNat)then ay.d (G i i.toNat)else(G i c).d),AV.int .i64 (bif decide (c=i.toNat)then ay.l (G i i.toNat)else(G i c).l),AV.int .i64 (bif decide (c=i.toNat)then if ay.l (G i i.toNat)+3<ay.h (G i i.toNat)then ay.l (G i i.toNat)+3 else ay.h (G i i.toNat)else(G i c).h),AV.int .i64 (bif decide (c=i.toNat)then ay.b (G i i.toNat)else(G i c).b)]) λj=>aF (G (i+1) j))/\zyN q.nw (zyR q.nw (au q.C) (zyN q.ng (zyR q.ng (aR q.G) (zyI q.a (zyI q.fl (zyB q.nu (zyB q.de (zyI q.top (zyB [48] (zyB [49] (zyR 5 aA (zyN k (zyI (i+1) (true=true/\aH (P i*(f+1)) (P (i+1)) Q))))))))))))))))))))))))))))))) (zyN M ((an M (λj=>aF (G i j)) λj=>aF (F j))/\zyN q.nw (zyR q.nw (au q.C) (zyN q.ng (zyR q.ng (aR q.G) (zyI q.a (zyI q.fl (zyB q.nu (zyB q.de (zyI q.top (zyB [48] (zyB [49] (zyR 5 aA (zyN k (true=true/\aH (P i) p True))))))))))))))))):=U
def gW(S:Nat->Nat->List UInt8)(j:Nat):List AV:=[.str (S j 0),.str (S j 1)]
noncomputable def We(k:Nat)(p:Int)(g a:Nat)(b:Nat->Nat->Int)(c:Nat->Nat->List UInt8)(n:Int)(d:List (Nat×AV)):Tr AV:=Tr.ofList ([(5,.bool true),(6,.ptr 15 0 0 0),(7,.own 16 k 10),(8,.int .i64 p),(10,.az a 9 (aX g b c)),(12,.slice 17 0 0 a (some a) 2),(13,.slice 18 0 0 a (some a) 2),(14,.int .i64 n)]++d)
noncomputable def Wf(q:Query)(M:Nat)(F:Nat->ay)(a n:Nat)(LS MS:Nat->Nat->List UInt8)(b:List (Nat×bq)):AH:=hE n ([(15,.cells (aY q) (.ty 32)),(16,QL M F .ro),(17,.rows a 2 (gW LS) (.ty 30)),(18,.rows a 2 (gW MS) (.ty 30))]++b)
noncomputable def V8(q:Query)(k M:Nat)(F:Nat->ay)(p:Int)(g a:Nat)(b:Nat->Nat->Int)(c:Nat->Nat->List UInt8)(LS MS:Int->Nat->Nat->List UInt8)(n:Int):St:={t:=We k p g a b c n [],nt:=220,H:=Wf q M F a 19 (LS n) (MS n) [],df:=[]}
noncomputable def Wv(n a:Nat)(LS MS:Nat->Nat->List UInt8):AH:={n:=n,t:=Tr.ofList [(17,.rows a 2 (gW LS) (.ty 30)),(18,.rows a 2 (gW MS) (.ty 30))]}
noncomputable def Ww(g a:Nat)(b:Nat->Nat->Int)(c:Nat->Nat->List UInt8)(d:List (Nat×AV)):Tr AV:=Tr.ofList ([(5,.bool true),(10,.az a 9 (aX g b c)),(12,.slice 17 0 0 a (some a) 2),(13,.slice 18 0 0 a (some a) 2)]++d)
noncomputable def V9(g a:Nat)(b:Nat->Nat->Int)(c:Nat->Nat->List UInt8)(LS MS:Nat->Nat->List UInt8):GE:=.one (.x 2 {t:=Ww g a b c [],nt:=220,H:=Wv 19 a LS MS,df:=[]})
noncomputable def Vn(q:Query)(k M:Nat)(F:Nat->ay)(p:Int)(g a:Nat)(b:Nat->Nat->Int)(c:Nat->Nat->List UInt8)(LS MS:Nat->Nat->List UInt8)(n:Int)(N:Int->Nat)(D:Nat->Int)(R:Int->Int)(x:Bool×Int):St:=match x.1 with
 |true=>{t:=We k p g a b c n [(15,.own 19 (N x.2) 1),(16,.int .i64 (R x.2)),(17,.int .i64 x.2)],nt:=220,H:=Wf q M F a 20 LS MS [(19,.rows (N x.2) 1 (ae D) (.ty 3))],df:=[]}
 |false=>{t:=We k p g a b c n [(15,.aw),(16,.int .i64 (R x.2)),(17,.int .i64 x.2)],nt:=220,H:=Wf q M F a 19 LS MS [],df:=[]}
noncomputable def Vo(q:Query)(k M:Nat)(F:Nat->ay)(p:Int)(g a:Nat)(b:Nat->Nat->Int)(c:Nat->Nat->List UInt8)(LS MS:Nat->Nat->List UInt8)(n:Int)(D:Nat->Int):GE:=.one (.x 4 {t:=We k p g a b c n [(15,.own 19 k 1)],nt:=220,H:=Wf q M F a 20 LS MS [(19,.rows k 1 (ae D) (.ty 3))],df:=[]})
theorem VG(q:Query)(k M:Nat)(F:Nat->ay)(p:Int)(g b:Nat)(o:Nat->Nat->Int)(r:Nat->Nat->List UInt8)(LS MS:Nat->Nat->List UInt8)(n:Int)(N:Int->Nat)(D:Nat->Int)(R:Int->Int)(i:Int)(Q:Prop):(kr (ι:=Bool×Int) [] [] 4 23004 19 (Vn q k M F p g b o r LS MS n N D R) (λ_=>Vo q k M F p g b o r LS MS n D) (λx=>(true,x.2+1)) Q (true,i))=(let c:=(ay.h (F i.toNat)-ay.l (F i.toNat)+1);let d:=(decide (0<=i)&&decide (i<Int.ofNat k));let f:=(an M (λj=>aF (F j)) λj=>aF (F j));let m:=(ay.l (F i.toNat)+Int.tmod (R i) c);(ah (decide (i<Int.ofNat k)) (aa d (aa (decide (i.toNat<M)) (aa d (aa (decide (i.toNat<M)) (aa (aN .i64 (ay.h (F i.toNat)-ay.l (F i.toNat))) (aa (aN .i64 c) (aa d (aa (decide (i.toNat<M)) (aa (!decide (ay.h (F i.toNat)-ay.l (F i.toNat)+1=0)) (aa (aN .i64 m) (aa (decide (N i<=N i)&&true&&true&&decide ((N i+1)*8<=140737488355328)&&true) (aa (!decide (ay.h (F i.toNat)-ay.l (F i.toNat)+1=0)&&aN .i64 (Int.tdiv (R i) c)) (aa (aN .i64 (i+1)) (ax (N i+1) (N (i+1)) (an (N i+1) (λe=>bif Nat.blt e (N i)then ae D e else List.take 1 (List.drop (0+(e-N i)*1) [AV.int .i64 m])) (ae D)/\zyN b (zyR b (gW MS) (zyN b (zyR b (gW LS) (zyN M (f/\zyN q.nw (zyR q.nw (au q.C) (zyN q.ng (zyR q.ng (aR q.G) (zyI q.a (zyI q.fl (zyB q.nu (zyB q.de (zyI q.top (zyB [48] (zyB [49] (zyR 5 aA (ax (N i+1) (N (i+1)) (zyN k (zyI (i+1) (true=true/\zyN b (zyN b (aH (Int.tdiv (R i) c) (R (i+1)) (zyI p (zyN b (zyN b (zyN b (zyR b (aX g o r) (zyI n Q))))))))))))))))))))))))))))))))))))))))))) (ax (N i) k (zyR (N i) (ae D) (zyN b (zyR b (gW MS) (zyN b (zyR b (gW LS) (zyN M (f/\zyN q.nw (zyR q.nw (au q.C) (zyN q.ng (zyR q.ng (aR q.G) (zyI q.a (zyI q.fl (zyB q.nu (zyB q.de (zyI q.top (zyB [48] (zyB [49] (zyR 5 aA (ax (N i) k (zyN k (true=true/\zyN b (zyN b (zyI p (zyN b (zyN b (zyN b (zyR b (aX g o r) (zyI n True))))))))))))))))))))))))))))))):=U
theorem Ve(q:Query)(k M:Nat)(F:Nat->ay)(p:Int)(g b:Nat)(m:Nat->Nat->Int)(o:Nat->Nat->List UInt8)(LS MS:Nat->Nat->List UInt8)(n:Int)(N:Int->Nat)(D:Nat->Int)(R:Int->Int)(i:Int)(Q:Prop):(kr (ι:=Bool×Int) [] [] 4 23004 19 (Vn q k M F p g b m o LS MS n N D R) (λ_=>Vo q k M F p g b m o LS MS n D) (λx=>(true,x.2+1)) Q (false,i))=(let c:=(ay.h (F i.toNat)-ay.l (F i.toNat)+1);let d:=(decide (0<=i)&&decide (i<Int.ofNat k));let e:=(an M (λj=>aF (F j)) λj=>aF (F j));let f:=(ay.l (F i.toNat)+Int.tmod (R i) c);(ah (decide (i<Int.ofNat k)) (aa d (aa (decide (i.toNat<M)) (aa d (aa (decide (i.toNat<M)) (aa (aN .i64 (ay.h (F i.toNat)-ay.l (F i.toNat))) (aa (aN .i64 c) (aa d (aa (decide (i.toNat<M)) (aa (!decide (ay.h (F i.toNat)-ay.l (F i.toNat)+1=0)) (aa (aN .i64 f) (aa (!decide (ay.h (F i.toNat)-ay.l (F i.toNat)+1=0)&&aN .i64 (Int.tdiv (R i) c)) (aa (aN .i64 (i+1)) (ax 1 (N (i+1)*1) (an (N (i+1)) (fW [AV.int .i64 f] 1) (ae D)/\zyN b (zyR b (gW MS) (zyN b (zyR b (gW LS) (zyN M (e/\zyN q.nw (zyR q.nw (au q.C) (zyN q.ng (zyR q.ng (aR q.G) (zyI q.a (zyI q.fl (zyB q.nu (zyB q.de (zyI q.top (zyB [48] (zyB [49] (zyR 5 aA (ax 1 (N (i+1)) (zyN k (zyI (i+1) (true=true/\zyN b (zyN b (aH (Int.tdiv (R i) c) (R (i+1)) (zyI p (zyN b (zyN b (zyN b (zyR b (aX g m o) (zyI n Q)))))))))))))))))))))))))))))))))))))))))) (ax k 0 (zyN b (zyR b (gW MS) (zyN b (zyR b (gW LS) (zyN M (e/\zyN q.nw (zyR q.nw (au q.C) (zyN q.ng (zyR q.ng (aR q.G) (zyI q.a (zyI q.fl (zyB q.nu (zyB q.de (zyI q.top (zyB [48] (zyB [49] (zyR 5 aA (ax k 0 (zyN k (true=true/\zyN b (zyN b (zyI p (zyN b (zyN b (zyN b (zyR b (aX g m o) (zyI n True)))))))))))))))))))))))))))))):=U
noncomputable def VH(q:Query)(k M:Nat)(F:Nat->ay)(p:Int)(g a:Nat)(b:Nat->Nat->Int)(c:Nat->Nat->List UInt8)(n:Int)(d:Nat)(e:Nat->Nat->Int)(f:Nat->Nat->List UInt8)(LS MS:Int->Nat->Nat->List UInt8)(i:Int):St:={t:=We k p g a b c n [(19,.az d 9 (aX g e f)),(21,.int .i64 i)],nt:=220,H:=Wf q M F a 20 (LS i) (MS i) [],df:=[]}
noncomputable def VI(q:Query)(k M:Nat)(F:Nat->ay)(p:Int)(g a:Nat)(b:Nat->Nat->Int)(c:Nat->Nat->List UInt8)(n:Int)(LS MS:Nat->Nat->List UInt8):GE:=.one (.x 6 {t:=We k p g a b c n [],nt:=220,H:=Wf q M F a 20 LS MS [],df:=[]})
theorem VJ(q:Query)(k M:Nat)(F:Nat->ay)(p:Int)(g c:Nat)(r:Nat->Nat->Int)(s:Nat->Nat->List UInt8)(n:Int)(l:Nat)(t:Nat->Nat->Int)(d:Nat->Nat->List UInt8)(LS MS:Int->Nat->Nat->List UInt8)(u v:Nat->Nat->List UInt8)(i:Int)(Q:Prop):(kr [j8] [] 4 32004 20 (VH q k M F p g c r s n l t d LS MS) (λ_=>VI q k M F p g c r s n u v) (λi=>i+1) Q i)=(let h:=((an M (λj=>aF (F j)) λj=>aF (F j))/\zyN q.nw (zyR q.nw (au q.C) (zyN q.ng (zyR q.ng (aR q.G) (zyI q.a (zyI q.fl (zyB q.nu (zyB q.de (zyI q.top (zyB [48] (zyB [49] (zyR 5 aA (zyN k (zyN l (zyR l (aX g t d) (true=true/\zyI (i+1) (zyN c (zyN c (zyI p (zyN c (zyN c (zyN c (zyR c (aX g r s) (zyI n Q))))))))))))))))))))))));let e:=(decide (0<=i)&&decide (i<Int.ofNat l));let f:=(decide (0<=i)&&decide (i<Int.ofNat c));let m:=(aa e (aa f (aa (decide (0+i.toNat<c)) (ah (decide (n=0)) (aa e (aa f (aa (decide (0+i.toNat<c)) (aa (aN .i64 (i+1)) (zyN c (an c (λb=>[AV.str (bif decide (b=0+i.toNat)then d i.toNat 0 else MS i b 0),AV.str (bif decide (b=0+i.toNat)then d i.toNat 1 else MS i b 1)]) (gW (MS (i+1)))/\zyN c (an c (λb=>[AV.str (bif decide (b=0+i.toNat)then d i.toNat 0 else LS i b 0),AV.str (bif decide (b=0+i.toNat)then d i.toNat 1 else LS i b 1)]) (gW (LS (i+1)))/\zyN M h))))))) (aa e (aa f (aa (decide (0+i.toNat<c)) (aa (bJ (d i.toNat 0) (d i.toNat 1)&&bJ (MS i (0+i.toNat) 0) (MS i (0+i.toNat) 1)) (ah (decide (bw (ao (d i.toNat 0)) (ao (d i.toNat 1)) (ao (MS i (0+i.toNat) 0)) (ao (MS i (0+i.toNat) 1))>0)) (aa e (aa f (aa (decide (0+i.toNat<c)) (aa (aN .i64 (i+1)) (zyN c (an c (λb=>[AV.str (bif decide (b=0+i.toNat)then d i.toNat 0 else MS i b 0),AV.str (bif decide (b=0+i.toNat)then d i.toNat 1 else MS i b 1)]) (gW (MS (i+1)))/\zyN c (an c (λb=>[AV.str (bif decide (b=0+i.toNat)then d i.toNat 0 else LS i b 0),AV.str (bif decide (b=0+i.toNat)then d i.toNat 1 else LS i b 1)]) (gW (LS (i+1)))/\zyN M h))))))) (aa (aN .i64 (i+1)) (zyN c (an c (gW (MS i)) (gW (MS (i+1)))/\zyN c (an c (λb=>[AV.str (bif decide (b=0+i.toNat)then d i.toNat 0 else LS i b 0),AV.str (bif decide (b=0+i.toNat)then d i.toNat 1 else LS i b 1)]) (gW (LS (i+1)))/\zyN M h)))))))))))));let o:=(aa e (aa f (aa (decide (0+i.toNat<c)) (aa (aN .i64 (i+1)) (zyN c (an c (λb=>[AV.str (bif decide (b=0+i.toNat)then d i.toNat 0 else MS i b 0),AV.str (bif decide (b=0+i.toNat)then d i.toNat 1 else MS i b 1)]) (gW (MS (i+1)))/\zyN c (an c (gW (LS i)) (gW (LS (i+1)))/\zyN M h)))))));(ah (decide (i<Int.ofNat l)) (ah (decide (n=0)) m (aa e (aa f (aa (decide (0+i.toNat<c)) (aa (bJ (d i.toNat 0) (d i.toNat 1)&&bJ (LS i (0+i.toNat) 0) (LS i (0+i.toNat) 1)) (ah (decide (bw (ao (d i.toNat 0)) (ao (d i.toNat 1)) (ao (LS i (0+i.toNat) 0)) (ao (LS i (0+i.toNat) 1))<0)) m (ah (decide (n=0)) o (aa e (aa f (aa (decide (0+i.toNat<c)) (aa (bJ (d i.toNat 0) (d i.toNat 1)&&bJ (MS i (0+i.toNat) 0) (MS i (0+i.toNat) 1)) (ah (decide (bw (ao (d i.toNat 0)) (ao (d i.toNat 1)) (ao (MS i (0+i.toNat) 0)) (ao (MS i (0+i.toNat) 1))>0)) o (aa (aN .i64 (i+1)) (zyN c (an c (gW (MS i)) (gW (MS (i+1)))/\zyN c (an c (gW (LS i)) (gW (LS (i+1)))/\zyN M h)))))))))))))))) (zyN c (an c (gW (MS i)) (gW v)/\zyN c (an c (gW (LS i)) (gW u)/\zyN M ((an M (λj=>aF (F j)) λj=>aF (F j))/\zyN q.nw (zyR q.nw (au q.C) (zyN q.ng (zyR q.ng (aR q.G) (zyI q.a (zyI q.fl (zyB q.nu (zyB q.de (zyI q.top (zyB [48] (zyB [49] (zyR 5 aA (zyN k (true=true/\zyN c (zyN c (zyI p (zyN c (zyN c (zyN c (zyR c (aX g r s) (zyI n True)))))))))))))))))))))))))):=U
theorem VK(q:Query)(k M:Nat)(F:Nat->ay)(p:Int)(b:Nat)(c:Nat->Nat->Int)(d:Nat->Nat->List UInt8)(LS MS:Int->Nat->Nat->List UInt8)(s t:Nat->Nat->List UInt8)(N:Int->Nat)(D:Nat->Int)(R:Int->Int)(e:(Nat->Int)->Nat)(g:(Nat->Int)->Nat->Nat->Int)(h:(Nat->Int)->Nat->Nat->List UInt8)(l m:Int->Nat->Nat->List UInt8)(o r:Nat->Nat->List UInt8)(n:Int)(Q:Prop):(kr [QI e g h] [(23004,19,Vn q k M F p q.ng b c d (LS n) (MS n) n N D R (false,0),Vo q k M F p q.ng b c d (LS n) (MS n) n D),(32004,20,VH q k M F p q.ng b c d n (e D) (g D) (h D) l m 0,VI q k M F p q.ng b c d n o r)] 4 18003 19 (V8 q k M F p q.ng b c d LS MS) (λ_=>V9 q.ng b c d s t) (λn=>n+1) Q n)=(let f:=(an M (λj=>aF (F j)) λj=>aF (F j));(ah (decide (n<p)) (aE PP II false (aD II 4 23004) 19 (Vn q k M F p q.ng b c d (LS n) (MS n) n N D R (false,0)) (Vo q k M F p q.ng b c d (LS n) (MS n) n D)/\zyN b (zyR b (gW (MS n)) (zyN b (zyR b (gW (LS n)) (zyN M (f/\zyN q.nw (zyR q.nw (au q.C) (zyN q.ng (zyR q.ng (aR q.G) (zyI q.a (zyI q.fl (zyB q.nu (zyB q.de (zyI q.top (zyB [48] (zyB [49] (zyR 5 aA (zyN k (true=true/\zyN b (zyN b (aH n (R 0) (zyI p (zyN b (zyN b (zyN b (zyR b (aX q.ng c d) (zyI n (aa ((List.all (List.range M) λi=>bt.free (aF (F i)))&&decide (k<=M)) (aa ((List.all (List.range k) λi=>bt.free (ae D i))&&decide (k<=k)) (aa (OQ e g h q.nw (au q.C) q.ng (aR q.G) q.a q.fl q.nu q.de q.top k (λj=>aF (F j)) k (ae D)) (ah (!decide (Int.ofNat (e (aM (ae D)))=Int.ofNat b)) False (aE PP II false (aD II 4 32004) 20 (VH q k M F p q.ng b c d n (e D) (g D) (h D) l m 0) (VI q k M F p q.ng b c d n o r)/\zyN b (an b (gW (MS n)) (gW (m 0))/\zyN b (an b (gW (LS n)) (gW (l 0))/\zyN M (f/\zyN q.nw (zyR q.nw (au q.C) (zyN q.ng (zyR q.ng (aR q.G) (zyI q.a (zyI q.fl (zyB q.nu (zyB q.de (zyI q.top (zyB [48] (zyB [49] (zyR 5 aA (zyN k (ax (e (aM (ae D))) (e D) (an (e (aM (ae D))) (aX q.ng (g (aM (ae D))) (h (aM (ae D)))) (aX q.ng (g D) (h D))/\true=true/\zyN b (zyN b (zyI p (zyN b (zyN b (zyN b (zyR b (aX q.ng c d) (zyI n (aa (aN .i64 (n+1)) (zyN b (an b (gW r) (gW (MS (n+1)))/\zyN b (an b (gW o) (gW (LS (n+1)))/\zyN M (f/\zyN q.nw (zyR q.nw (au q.C) (zyN q.ng (zyR q.ng (aR q.G) (zyI q.a (zyI q.fl (zyB q.nu (zyB q.de (zyI q.top (zyB [48] (zyB [49] (zyR 5 aA (zyN k (true=true/\zyN b (zyN b (zyI p (zyN b (zyN b (zyN b (zyR b (aX q.ng c d) (zyI (n+1) Q))))))))))))))))))))))))))))))))))))))))))))))))))))))))))))))))))))))))))))))))) (zyN b (an b (gW (MS n)) (gW t)/\zyN b (an b (gW (LS n)) (gW s)/\true=true/\zyN b (zyN b (zyN b (zyN b (zyN b (zyR b (aX q.ng c d) True)))))))))):=U
noncomputable def Wa(g a:Nat)(b:Nat->Nat->Int)(c:Nat->Nat->List UInt8)(LS MS:Nat->Nat->List UInt8)(i:Int):St:={t:=Ww g a b c [(22,.int .i64 i)],nt:=220,H:=Wv 19 a LS MS,df:=[]}
noncomputable def Wb:GE:=.one (.x 8 {t:=Tr.ofList [(5,.bool true)],nt:=220,H:={n:=19,t:=.e},df:=[]})
theorem VL(g a:Nat)(d:Nat->Nat->Int)(c:Nat->Nat->List UInt8)(LS MS:Nat->Nat->List UInt8)(i:Int)(Q:Prop):(kr [] [] 4 39004 19 (Wa g a d c LS MS) (λ_=>Wb) (λi=>i+1) Q i)=(let b:=(decide (0<=i)&&decide (i<Int.ofNat a));(ah (decide (i<Int.ofNat a)) (aa b (aa b (aa (decide (0+i.toNat<a)) (ah (!(List.beq (c i.toNat 0) (LS (0+i.toNat) 0)&&(List.beq (c i.toNat 1) (LS (0+i.toNat) 1)&&true))) False (aa b (aa b (aa (decide (0+i.toNat<a)) (ah (!(List.beq (c i.toNat 2) (MS (0+i.toNat) 0)&&(List.beq (c i.toNat 3) (MS (0+i.toNat) 1)&&true))) False (aa (aN .i64 (i+1)) (zyN a (zyR a (gW MS) (zyN a (zyR a (gW LS) (true=true/\zyN a (zyN a (zyN a (zyN a (zyN a (zyR a (aX g d c) (zyI (i+1) Q)))))))))))))))))))) (true=true/\True))):=U
end Go.Sx
end
section
set_option maxRecDepth 100000
namespace Go.Sx
open Go Go.Sort Go.Shelf Go.Proofs
theorem Dm.SC{l m:List Int}(h:l.Perm m):Dm l m:=⟨h.length_eq,λx=>by rw[h.countP_eq];exact dw _⟩
theorem lowest{a b c d:Nat}(e:Nat.Coprime a b)(f:Nat.Coprime c d)(h:a*d=c*b):a=c/\b=d :=
 ⟨Nat.dvd_antisymm (e.dvd_of_dvd_mul_right ⟨d,h.symm⟩) (f.dvd_of_dvd_mul_right ⟨b,h⟩),Nat.dvd_antisymm (e.symm.dvd_of_dvd_mul_left ⟨c,h.trans (Nat.mul_comm c b)⟩) (f.symm.dvd_of_dvd_mul_left ⟨a,h.symm.trans (Nat.mul_comm a d)⟩)⟩
theorem Sp{q:Query}{k j:Nat}{a b:Nat->Int}(c:lY (tv (pS q k a)) (tv (pS q j b)))(d:lY (tv (pS q j b)) (tv (pS q k a))):pS q k a=pS q j b:=by
 have e:=Nat.coprime_div_gcd_div_gcd (m:=(jO q k a).1) (n:=(jO q k a).2) (Nat.gcd_pos_of_pos_right _ (u9 q k a))
 have f:=Nat.coprime_div_gcd_div_gcd (m:=(jO q j b).1) (n:=(jO q j b).2) (Nat.gcd_pos_of_pos_right _ (u9 q j b))
 unfold lY tv pS c8 da at c d
 simp only[cq]at c d
 obtain⟨g,h⟩:=lowest e f (Nat.le_antisymm c d)
 unfold pS c8 da
 rw[g,h]
theorem Lu{q:Query}{k j:Nat}{a b:Nat->Int}(h:((List.range k).map a).Perm ((List.range j).map b)):pS q k a=pS q j b:=by
 have e:k=j:=by simpa using h.length_eq
 subst e
 exact Sp (Oo (Dm.SC h)) (Oo (Dm.SC h.symm))
theorem LH{f:Nat->Int}:∀{m:List Int}{l:List Nat},m.Perm (l.map f)->∃c:List Nat,c.Perm l/\c.map f=m
 |[],l,h=>by
  have:l=[]:=by
   have:=h.length_eq
   rw[List.length_map]at this
   exact List.length_eq_zero_iff.1 this.symm
  exact⟨[],by rw[this],rfl⟩
 |b::m,l,h=>by
  obtain⟨a,ha,e⟩:=List.mem_map.1 (h.mem_iff.1 (List.mem_cons_self (a:=b) (l:=m)))
  have p:=List.perm_cons_erase ha
  have d:(b::m).Perm (b::(l.erase a).map f):=h.trans (by have:=List.Perm.map f p;rw[List.map_cons,e]at this;exact this)
  obtain⟨c,g,i⟩:=LH d.cons_inv
  exact⟨a::c,(g.cons a).trans p.symm,by rw[List.map_cons,e,i]⟩
theorem Pb{k:Nat}(i:Nat){L:Nat->Int}{C:Nat->Bool}{M:List Int}(g:M.Perm (((List.range k).filter λj=>!C j).map L)):
  ∃p:Nat->Bool,(∀j,C j=true->p j=true)/\(((List.range k).filter p).map L).Perm (((List.range k).filter C).map L++M.take i):=by
 obtain⟨l,f,m⟩:=LH g
 refine⟨λ(j:Nat)=>C j||decide (j∈l.take i),λj h=>by simp[h],?_⟩
 rw[<-m,<-List.map_take,<-List.map_append]
 refine List.Perm.map L ?_
 have n:l.Nodup:=f.nodup_iff.2 (List.Pairwise.filter _ List.nodup_range)
 have inl:∀a,a∈l->a<k/\C a=false:=λa ha=>by
  obtain⟨d,c⟩:=List.mem_filter.1 (f.mem_iff.1 ha)
  exact⟨List.mem_range.1 d,by simpa using c⟩
 refine(List.perm_ext_iff_of_nodup (List.Pairwise.filter _ List.nodup_range) (List.nodup_append.2 ⟨List.Pairwise.filter _ List.nodup_range,n.sublist (List.take_sublist _ _),λa ha b o e=>?_⟩)).2 λa=>?_
 ·obtain⟨_,c⟩:=List.mem_filter.1 ha
  have:=(inl b (List.mem_of_mem_take o)).2
  rw[<-e,c]at this
  cases this
 ·rw[List.mem_filter,List.mem_append,List.mem_filter,Bool.or_eq_true,bn]
  constructor
  ·rintro⟨d,c|c⟩
   ·exact .inl ⟨d,c⟩
   ·exact .inr c
  ·rintro(⟨d,c⟩|c)
   ·exact⟨d,.inl c⟩
   ·exact⟨List.mem_range.2 (inl a (List.mem_of_mem_take c)).1,.inr c⟩
theorem SF{better:Int->Bool}(q:Query)(k:Nat)(L:Nat->Int)(C:Nat->Bool)(l:List Int)(b:l.Perm ((List.range (aP (λj=>!C j) k)).map (bS (λj=>!C j) L k))):
  ∃p:Nat->Bool,(∀j,C j=true->p j=true)/\aS better (bN q (aP C k) (bS C L k) λj=>l.getD j 0) (aP (λj=>!C j) k)=pS q (aP p k) (bS p L k):=by
 rw[nf]at b
 have hl:=b.length_eq
 rw[List.length_map]at hl
 obtain⟨i,hi,e⟩:=eK (better:=better) (R:=bN q (aP C k) (bS C L k) λj=>l.getD j 0) (aP (λj=>!C j) k)
 obtain⟨a,a1,a2⟩:=Oq q k L C l i (by rw[hl];exact hi)
 obtain⟨p,c,d⟩:=Pb i b
 exact⟨p,c,by rw[e,a1];exact Lu (by rw[a2,nf];exact d.symm)⟩
theorem RE{better:Int->Bool}(q:Query)(k:Nat)(L:Nat->Int)(C:Nat->Bool)(d:(List.range k).any C=false)(l:List Int)(b:l.Perm ((List.range k).map L)):
  ∃p:Nat->Bool,(∀j,j<k->C j=true->p j=true)/\aS better (br q λj=>l.getD j 0) k=pS q (aP p k) (bS p L k):=by
 obtain⟨n1,f⟩:=Hr d
 have hl:=b.length_eq
 rw[List.length_map,List.length_range]at hl
 rw[<-f]at b
 obtain⟨i,hi,e⟩:=eK (better:=better) (R:=br q λj=>l.getD j 0) k
 obtain⟨a,a1,a2⟩:=Hq q l i (by rw[hl];exact hi)
 obtain⟨p,g,c⟩:=Pb i b
 rw[n1,List.map_nil,List.nil_append]at c
 exact⟨p,λj _=>g j,by rw[e,a1];exact Lu (by rw[a2,nf];exact c.symm)⟩
theorem Wc(q:Query)(k:Nat)(L:Nat->Int)(C:Nat->Bool):∃p:Nat->Bool,(∀j,j<k->C j=true->p j=true)/\eO q k L C=pS q (aP p k) (bS p L k):=by
 unfold eO
 cases a:(List.range k).any C with
 |true=>
  obtain⟨p,b,d⟩:=SF (better:=λc=>decide (c<0)) q k L C _ (gq (aP (λi=>!C i) k) (bS (λi=>!C i) L k)).2
  exact⟨p,λj _=>b j,d⟩
 |false=>exact RE q k L C a _ (gq k L).2
theorem VM(q:Query)(k:Nat)(G:Nat->Int)(C:Nat->Bool):∃p:Nat->Bool,(∀j,j<k->C j=true->p j=true)/\dQ q k G C=pS q (aP p k) (bS p G k):=by
 unfold dQ
 cases a:(List.range k).any C with
 |true=>
  obtain⟨p,b,d⟩:=SF (better:=λc=>decide (c>0)) q k G C _ (sd (aP (λi=>!C i) k) (bS (λi=>!C i) G k)).2
  exact⟨p,λj _=>b j,d⟩
 |false=>exact RE q k G C a _ (sd k G).2
structure Wg (Y1:bj) (i:Nat):Prop where
 lt:∀a,a<Y1.m->Y1.T a<i
 up:∀a b,a<b->b<Y1.m->Y1.T a<Y1.T b
theorem Ps(q:Query)(F:Nat->ay):∀i j,j<(aV q F i).length->Wg (aK (aV q F i) j) i
 |0,j,d=>absurd d (by simp[aV])
 |i+1,l,hl=>by
  have k:=Ps q F i
  have c:∀j,j<(aV q F i).length->Wg (aK (aV q F i) j) (i+1:Nat):=λj d=>⟨λa ha=>by have:=(k j d).lt a ha;omega,(k j d).up⟩
  revert hl
  show l<(km q (aV q F i) i (F i)).length->Wg (aK (km q (aV q F i) i (F i)) l) (i+1:Nat)
  unfold km
  cases gk q (F i)with
  |false=>exact c l
  |true=>
   simp only[cond_true]
   split
   ·rename_i j o
    obtain⟨d,_⟩:=lF o
    intro hl
    rw[List.length_set]at hl
    rw[gg d]
    by_cases h:l=j
    ·rw[if_pos h]
     obtain⟨n,p⟩:=k j d
     have old:∀a,a<(aK (aV q F i) j).m->gV (aK (aV q F i) j).T (aK (aV q F i) j).m (i:Int) a=(aK (aV q F i) j).T a:=λa ha=>by
      unfold gV
      rw[if_neg O]
     have new:gV (aK (aV q F i) j).T (aK (aV q F i) j).m (i:Int) (aK (aV q F i) j).m=i:=by
      unfold gV
      rw[if_pos A]
     refine⟨λa ha=>?_,λa b f g=>?_⟩
     ·have ha:a<(aK (aV q F i) j).m+1:=ha
      show gV _ _ _ a<_
      by_cases e:a=(aK (aV q F i) j).m
      ·rw[e,new];omega
      ·rw[old a O];have:=n a O;omega
     ·have g:b<(aK (aV q F i) j).m+1:=g
      show gV _ _ _ a<gV _ _ _ b
      rw[old a O]
      by_cases e:b=(aK (aV q F i) j).m
      ·rw[e,new];exact n a O
      ·rw[old b O];exact p a b f O
    ·rw[if_neg h];exact c l hl
   ·intro hl
    rw[gh]
    by_cases h:l=(aV q F i).length
    ·rw[if_pos h]
     refine⟨λa _=>?_,λa b f g=>?_⟩
     ·show(i:Int)<(i+1:Nat);omega
     ·have g:b<1:=g
      omega
    ·rw[if_neg h];exact c l (by simp at hl;omega)
theorem SG{q:Query}{k:Nat}{F:Nat->ay}{g:bj}(hq:eU q=true)(y:∀j,j<k->bB (F j)=true)(E:oc q F k g)(hI:Wg g k)(p:Nat->Bool)(J:∀j,j<g.m->g.C j=true->p j=true)(V:Nat->Int)
  (K:∀j,j<g.m->q.fl=8->qS q (F (g.T j).toNat) (V j)=true) (M:∀j,j<g.m->q.fl≠8->g.L j=V j):
  ∃D,r9 k F D/\∀r,(∀f,f<k->r f=D f)->pS q (yd q F r g) (uq q F r g)=pS q (aP p g.m) (bS p V g.m):=by
 have one:∀a b,a<g.m->b<g.m->g.T a=g.T b->a=b:=λa b ha N e=>by
  rcases Nat.lt_trichotomy a b with h|h|h
  ·have:=hI.up a b h N;omega
  ·exact h
  ·have:=hI.up b a h ha;omega
 have ex:∀f,f<k->∃d,(F f).l<=d/\d<=(F f).h/\∀j,j<g.m->g.T j=(f:Int)->qS q (F f) d=p j/\(p j=true->q.fl=8->d=V j):=λf t=>by
  have P:(F f).l<=(F f).h:=((jx (y f t)).1).2.1
  by_cases o:∃j,j<g.m/\g.T j=(f:Int)
  ·obtain⟨j,i,u⟩:=o
   obtain⟨n,f1,G,H,_,_,f6⟩:=E j i
   have Q:n=f:=O
   subst Q
   have only:∀d,qS q (F n) d=p j/\(p j=true->q.fl=8->d=V j)->∀s,s<g.m->g.T s=(n:Int)->qS q (F n) d=p s/\(p s=true->q.fl=8->d=V s):=λd h s R W=>by
    rw[one s j R i O];exact h
   cases hp:p j with
   |true=>
    by_cases e:q.fl=8
    ·have:=K j i e
     rw[u]at this
     obtain⟨y1,y2⟩:=Sw this
     exact⟨V j,y1,y2,only _ ⟨by rw[hp];exact this,λ_ _=>rfl⟩⟩
    ·obtain⟨d,I⟩:=(Ke hq).1 H
     obtain⟨y1,y2⟩:=Sw I
     exact⟨d,y1,y2,only _ ⟨by rw[hp];exact I,λ_ c=>absurd c e⟩⟩
   |false=>
    have S:jA q (F n)=false:=by
     cases hm:jA q (F n)with
     |false=>rfl
     |true=>
      have:=J j i (by rw[f6];unfold Br;rw[H,hm];rfl)
      rw[hp]at this;cases this
    have:∃d,(F n).l<=d/\d<=(F n).h/\qS q (F n) d=false:=Classical.byContradiction λc=>by
     have:=(K4 hq (y n t)).2 λd d1 w=>by
      cases h:qS q (F n) d with
      |true=>rfl
      |false=>exact absurd ⟨d,d1,w,h⟩ c
     rw[S]at this;cases this
    obtain⟨d,d1,w,U⟩:=this
    exact⟨d,d1,w,only _ ⟨by rw[hp];exact U,λc=>by rw[hp]at c;cases c⟩⟩
  ·exact⟨(F f).l,Int.le_refl _,P,λj i u=>absurd ⟨j,i,u⟩ o⟩
 refine⟨λf=>if h:f<k then Classical.choose (ex f h)else 0,λf t=>?_,λr x=>?_⟩
 ·have:=Classical.choose_spec (ex f t)
  show(F f).l<=(if h:f<k then _ else _)/\(if h:f<k then _ else _)<=_
  rw[dif_pos t]
  exact⟨this.1,this.2.1⟩
 ·have v:∀j,j<g.m->qS q (F (g.T j).toNat) (r (g.T j).toNat)=p j/\(p j=true->q.fl=8->r (g.T j).toNat=V j):=λj o=>by
   obtain⟨f,f1,G,_⟩:=E j o
   rw[show(g.T j).toNat=f by omega,x f f1]
   show qS q (F f) (if h:f<k then _ else _)=_/\(_->_->(if h:f<k then _ else _)=_)
   rw[dif_pos f1]
   exact(Classical.choose_spec (ex f f1)).2.2 j o G
  refine Lu ?_
  unfold yd uq
  rw[nf,nf]
  refine List.Perm.of_eq ?_
  rw[show(List.range g.m).filter (uG q F r g.T)=(List.range g.m).filter p from List.filter_congr λj o=>(v j (List.mem_range.1 o)).1]
  refine List.map_congr_left λj o=>?_
  obtain⟨i,u⟩:=List.mem_filter.1 o
  have i:=List.mem_range.1 i
  unfold Rb
  by_cases e:q.fl=8
  ·rw[if_pos e];exact(v j i).2 u e
  ·rw[if_neg e];exact M j i e
theorem Sq{q:Query}{x:ay}(hq:eU q=true)(hx:bB x=true)(c:gk q x=true):(q.fl=8->qS q x (kR q x)=true/\qS q x (lJ q x)=true)/\(q.fl≠8->kR q x=lJ q x):=by
 have ha:(q.a=1/\q.fl=0)∨(q.a≠1/\(q.fl=7∨q.fl=8)):=by
  have:=hq
  unfold eU EV at this
  simp only[bf,Bool.or_eq_true,bn]at this
  omega
 have d:x.l<=x.h:=((jx hx).1).2.1
 unfold kR lJ
 rw[c]
 constructor
 ·intro e
  show qS q x (if q.a=1 then 1 else if q.fl=7 then x.b else _)=true/\qS q x (if q.a=1 then 1 else if q.fl=7 then x.b else _)=true
  rw[if_neg O,if_neg O,if_neg O,if_neg O]
  cases f:jA q x with
  |true=>exact⟨FX hq hx f (Int.le_refl _) d,FX hq hx f d (Int.le_refl _)⟩
  |false=>exact⟨Ls hq c,P4 hq c⟩
 ·intro e
  show(if q.a=1 then 1 else if q.fl=7 then x.b else _)=(if q.a=1 then 1 else if q.fl=7 then x.b else _)
  rcases ha with⟨a1,_⟩|⟨a1,a2⟩
  ·rw[if_pos a1,if_pos a1]
  ·rw[if_neg a1,if_neg a1,if_pos O,if_pos O]
theorem VN{q:Query}{k:Nat}{F:Nat->ay}{a:bj}(hq:eU q=true)(d:∀j,j<k->bB (F j)=true)(g:oc q F k a)(hI:Wg a k):
  (∃D,r9 k F D/\∀b,(∀f,f<k->b f=D f)->pS q (yd q F b a) (uq q F b a)=eO q a.m a.L a.C)/\∃D,r9 k F D/\∀b,(∀f,f<k->b f=D f)->pS q (yd q F b a) (uq q F b a)=dQ q a.m a.G a.C:=by
 obtain⟨p,i,l⟩:=Wc q a.m a.L a.C
 obtain⟨r,r1,n⟩:=VM q a.m a.G a.C
 rw[l,n]
 have h:∀j,j<a.m->(q.fl=8->qS q (F (a.T j).toNat) (a.L j)=true/\qS q (F (a.T j).toNat) (a.G j)=true)/\(q.fl≠8->a.L j=a.G j):=λj c=>by
  obtain⟨f,f1,t,o,s,f5,_⟩:=g j c
  rw[show(a.T j).toNat=f by omega,s,f5]
  exact Sq hq (d f f1) o
 exact⟨SG hq d g hI p i a.L (λj c e=>((h j c).1 e).1) λ_ _ _=>rfl,SG hq d g hI r r1 a.G (λj c e=>((h j c).1 e).2) λj c e=>(h j c).2 e⟩
def zl(a:Nat->Nat)(n:Nat):Nat->Nat
 |0=>n
 |i+1=>zl a n i/a i
def ru(a:Nat->Nat):Nat->Nat
 |0=>1
 |i+1=>ru a i*a i
theorem S1(a:Nat->Nat)(n:Nat):∀i,zl a n (i+1)=zl (λj=>a (j+1)) (n/a 0) i
 |0=>rfl
 |i+1=>by
  show zl a n (i+1)/a (i+1)=zl (λj=>a (j+1)) (n/a 0) i/a (i+1)
  rw[S1 a n i]
theorem S8(a:Nat->Nat):∀k,ru a (k+1)=a 0*ru (λj=>a (j+1)) k
 |0=>by show 1*a 0=a 0*1;omega
 |k+1=>by
  show ru a (k+1)*a (k+1)=a 0*(ru (λj=>a (j+1)) k*a (k+1))
  rw[S8 a k,Nat.mul_assoc]
theorem digits:∀(k:Nat)(a e:Nat->Nat),(∀i,i<k->e i<a i)->∃n,n<ru a k/\∀i,i<k->zl a n i%a i=e i
 |0,_,_,_=>⟨0,Nat.one_pos,λi hi=>absurd hi (lZ _)⟩
 |k+1,a,e,h=>by
  obtain⟨n,n1,c⟩:=digits k (λj=>a (j+1)) (λj=>e (j+1)) λi hi=>h (i+1) O
  have b:=h 0 O
  refine⟨e 0+a 0*n,?_,λi hi=>?_⟩
  ·rw[S8]
   have:=Nat.mul_le_mul_left (a 0) (show n+1<=_ from n1)
   rw[Nat.mul_add,Nat.mul_one]at this
   omega
  ·cases i with
   |zero=>
    show(e 0+a 0*n)%a 0=e 0
    rw[Nat.add_mul_mod_self_left,Nat.mod_eq_of_lt b]
   |succ i=>
    rw[S1,Nat.add_mul_div_left _ _ O,Nat.div_eq_of_lt b,Nat.zero_add]
    exact c i O
end Go.Sx
end
section
set_option maxRecDepth 100000
namespace Go.Sx
open Go Go.Sort Go.Shelf Go.Proofs
def zT(x:ay):ay:=⟨x.t,x.s,x.v,x.w,x.o,x.p,x.d,x.l,if x.l+3<x.h then x.l+3 else x.h,x.b⟩
def oA(F:Nat->ay)(i j:Nat):ay:=if j<i then zT (F j)else F j
theorem TF{x:ay}(h:bB x=true):bB (zT x)=true:=by
 unfold bB at h⊢
 simp only[bf,bn]at h⊢
 show _/\_
 simp only[zT]
 split<;>omega
theorem Vf{k m:Nat}{F:Nat->ay}(h:Good k F)(b:m<=k)(i:Nat):Good m (oA F i) where
 val j a:=by
  have:=h.val j O
  unfold oA
  split
  ·exact TF this
  ·exact this
 ord j a:=by
  have:=h.ord j O
  unfold Bb at this⊢
  unfold oA
  split<;>split<;>exact this
def eD(x:ay):Nat:=(x.h-x.l+1).toNat
def ta(F:Nat->ay)(n i:Nat):Int:=(F i).l+((zl (λj=>eD (F j)) n i%eD (F i):Nat):Int)
theorem LI{k:Nat}{F:Nat->ay}(a:∀j,j<k->bB (F j)=true)(n:Nat):r9 k F (ta F n):=λj b=>by
 have:=(jx (a j b)).1
 have h:zl (λj=>eD (F j)) n j%eD (F j)<eD (F j):=Nat.mod_lt _ (by unfold eD;omega)
 unfold ta
 unfold eD at h
 unfold eD
 omega
theorem Vg{k:Nat}{F:Nat->ay}{D:Nat->Int}(a:r9 k F D):∃n,n<ru (λj=>eD (F j)) k/\∀f,f<k->ta F n f=D f:=by
 obtain⟨n,c,d⟩:=digits k (λj=>eD (F j)) (λj=>(D j-(F j).l).toNat) λi hi=>by
  have:=a i hi
  show _<eD (F i)
  unfold eD
  omega
 refine⟨n,c,λf b=>?_⟩
 have:=a f b
 unfold ta
 rw[d f b]
 omega
theorem LJ{k:Nat}{F:Nat->ay}(a:∀j,j<k->bB (F j)=true):∀i,i<=k->0<ru (λj=>eD (F j)) i
 |0,_=>Nat.one_pos
 |i+1,hi=>Nat.mul_pos (LJ a i O) (by
  have:=(jx (a i O)).1
  show 0<eD (F i)
  unfold eD;omega)
theorem Q7{k:Nat}{F:Nat->ay}(a:∀j,j<k->eD (F j)<=4):∀i,i<=k->ru (λj=>eD (F j)) i<=4^i
 |0,_=>dw _
 |i+1,hi=>Nat.mul_le_mul (Q7 a i O) (a i O)
theorem NB{x:ay}:eD (zT x)<=4:=by
 unfold eD
 simp only[zT]
 split<;>omega
theorem Wh{q:Query}{R:Nat->List UInt8×List UInt8}(d:∀n,∃k a,R n=pS q k a){b:List UInt8×List UInt8}{N m:Nat}(h:m<=N)(e:R m=b)(hB:∀n,lY (tv b) (tv (R n))):aS (λc=>decide (c<0)) R N=b:=by
 have pos:∀n,0<(tv (R n)).2:=λn=>by
  obtain⟨k,a,e⟩:=d n
  rw[e];exact Bh q k a
 obtain⟨j,r,i⟩:=eK (better:=λc=>decide (c<0)) (R:=R) N
 have f:=Bi pos N m h
 have g:=hB j
 rw[i]at f⊢
 rw[<-e]at g⊢
 obtain⟨k,a,o⟩:=d j
 obtain⟨l,s,p⟩:=d m
 rw[o,p]at f g⊢
 exact Sp f g
theorem Wk{q:Query}{R:Nat->List UInt8×List UInt8}(d:∀n,∃k a,R n=pS q k a){b:List UInt8×List UInt8}{N m:Nat}(h:m<=N)(e:R m=b)(hB:∀n,lY (tv (R n)) (tv b)):aS (λc=>decide (c>0)) R N=b:=by
 have pos:∀n,0<(tv (R n)).2:=λn=>by
  obtain⟨k,a,e⟩:=d n
  rw[e];exact Bh q k a
 obtain⟨j,r,i⟩:=eK (better:=λc=>decide (c>0)) (R:=R) N
 have f:=Bj pos N m h
 have g:=hB j
 rw[i]at f⊢
 rw[<-e]at g⊢
 obtain⟨k,a,o⟩:=d j
 obtain⟨l,s,p⟩:=d m
 rw[o,p]at f g⊢
 exact Sp g f
def qP(q:Query)(k:Nat)(F:Nat->ay)(n i:Nat):List UInt8×List UInt8:=(xm q k F (ta F n) i 0,xm q k F (ta F n) i 1)
theorem Sr{q:Query}{k:Nat}{F:Nat->ay}(hq:ct q=true)(e:q.top=0)(l:cX k F=true)(i:Nat)(hi:i<r8 q k F):
  aS (λc=>decide (c<0)) (λn=>qP q k F n i) (ru (λj=>eD (F j)) k-1)=(oU q k F i 0,oU q k F i 1)/\aS (λc=>decide (c>0)) (λn=>qP q k F n i) (ru (λj=>eD (F j)) k-1)=(oU q k F i 2,oU q k F i 3):=by
 have a:=jR l
 have f:=(mY hq).2.2
 have hl:i<(aV q F k).length:=by
  unfold r8 ju at hi
  rw[if_pos e]at hi;exact hi
 have g:oc q F k (og q (aV q F k) i):=Ho q F k hl
 have hI:Wg (og q (aV q F k) i) k:=Ps q F k _ (u4 q.ng (aV q F k).length (fj q.ng (aV q F k)) hl)
 obtain⟨⟨t,d1,o⟩,u,p,r⟩:=VN f a g hI
 have b:∀n,qP q k F n i=pS q (yd q F (ta F n) (og q (aV q F k) i)) (uq q F (ta F n) (og q (aV q F k) i)):=λn=>by
  unfold qP xm cS
  rw[if_pos e];rfl
 have d:∀c,oU q k F i c=jC q (og q (aV q F k)) i c:=λc=>by
  unfold oU cS
  rw[if_pos e]
 have v:=LJ a k (dw _)
 obtain⟨n1,a1,a2⟩:=Vg d1
 obtain⟨h,w,s⟩:=Vg p
 rw[d,d,d,d]
 constructor
 ·exact Wh (q:=q) (λn=>⟨_,_,b n⟩) (m:=n1) O ((b n1).trans (o _ a2)) λn=>by rw[b n];exact(Rp f a (LI a n) g).1
 ·exact Wk (q:=q) (λn=>⟨_,_,b n⟩) (m:=h) O ((b h).trans (r _ s)) λn=>by rw[b n];exact(Rp f a (LI a n) g).2
end Go.Sx
end
section
set_option maxRecDepth 1000000
namespace Go.Sx
open Go
theorem Hz(n:Nat)(S:Nat->Nat->List UInt8):an n (gW S) (gW S):=λ_ _ _=>⟨rfl,rfl,trivial⟩
theorem HA(n:Nat)(F:Nat->ay):an n (λj=>aF (F j)) λj=>aF (F j):=λ_ _ σ=>cL σ _
def Dj(F:Nat->ay)(i:Int):Int:=((ru (λj=>eD (zT (F j))) i.toNat:Nat):Int)
theorem VO(F:Nat->ay)(i j:Nat):oA F (i+1) j=bif decide (j=i)then zT (oA F i i)else oA F i j:=by
 unfold oA
 by_cases h:j=i
 ·rw[bW h,cond_true,h,if_pos (Nat.lt_succ_self i),if_neg (HD i)]
 ·rw[nZ h,cond_false]
  by_cases a:j<i
  ·rw[if_pos a,if_pos O]
  ·rw[if_neg a,if_neg O]
theorem VP{q:Query}{k M:Nat}{F:Nat->ay}(L:k<=M)(N:k<=4)(r:∀j,j<M->bB (F j)=true):
  aE PP II false (aD II 4 8004) 17 (V6 q k M (λi=>oA F i.toNat) (Dj F) 0) (V7 q k M (oA F k) (Dj F k)):=by
 have key:=aE.of (ι:=Nat) iw [] (bm PP II []) 1000 (c:=aD II 4 8004) (ir:=false) 17 (λi=>i<=k) (λi=>V6 q k M (λi=>oA F i.toNat) (Dj F) (i:Int)) (λ_=>V7 q k M (oA F k) (Dj F k)) (λi=>k-i) (λi=>i+1) 0 A (Nat.zero_le _) λi hi=>?_
 ·exact key
 have hi:i<=k:=hi
 have P:Int.ofNat k=(k:Int):=rfl
 have go:∀Q:Prop,(i<k->Q)->kr [] [] 4 8004 17 (V6 q k M (λi=>oA F i.toNat) (Dj F)) (λ_=>V7 q k M (oA F k) (Dj F k)) (λi=>i+1) Q (i:Int):=λQ hQ=>by
  rw[Vq,show Int.toNat (i:Int)=i from rfl,show Int.toNat ((i:Int)+1)=i+1 by omega]
  refine Zg (λh=>?_) λh=>?_
  ·have f:i<k:=by omega
   have u:(decide ((0:Int)<=i)&&decide ((i:Int)<Int.ofNat k))=true:=by simp only[bf,bn];omega
   have x:(decide (i<M))=true:=bW O
   have g:oA F i i=F i:=if_neg (HD i)
   have v:=(jx (r i O)).1
   have y:=Q7 (k:=k) (F:=λj=>zT (F j)) (λ_ _=>NB) i hi
   have C:4^i<=256:=Nat.pow_le_pow_right O (O:i<=4)
   have m:Dj F ((i:Int)+1)=Dj F i*(((if(F i).l+3<(F i).h then(F i).l+3 else(F i).h)-(F i).l)+1):=by
    unfold Dj
    rw[show Int.toNat ((i:Int)+1)=i+1 by omega]
    show((ru (λj=>eD (zT (F j))) i*eD (zT (F i)):Nat):Int)=_
    rw[Int.natCast_mul]
    congr 1
    unfold eD
    simp only[zT]
    split<;>omega
   have D:Dj F (i:Int)=((ru (λj=>eD (zT (F j))) i:Nat):Int):=rfl
   have n:((if(F i).l+3<(F i).h then(F i).l+3 else(F i).h)-(F i).l)+1=((eD (zT (F i)):Nat):Int):=by
    unfold eD
    simp only[zT]
    split<;>omega
   have E:eD (zT (F i))<=4:=NB
   have R:ru (λj=>eD (zT (F j))) i*eD (zT (F i))<=256*4:=Nat.mul_le_mul (Nat.le_trans y C) E
   rw[bW A,cond_true,cond_true,g,u,x,n]
   rw[n]at m
   have row:an M (λa=>[AV.int .i64 (bif decide (a=i)then(F i).t else(oA F i a).t),AV.int .i64 (bif decide (a=i)then(F i).s else(oA F i a).s),AV.int .i64 (bif decide (a=i)then(F i).v else(oA F i a).v),AV.int .i64 (bif decide (a=i)then(F i).w else(oA F i a).w),AV.int .i64 (bif decide (a=i)then(F i).o else(oA F i a).o),AV.int .i64 (bif decide (a=i)then(F i).p else(oA F i a).p),AV.int .i64 (bif decide (a=i)then(F i).d else(oA F i a).d),AV.int .i64 (bif decide (a=i)then(F i).l else(oA F i a).l),AV.int .i64 (bif decide (a=i)then if(F i).l+3<(F i).h then(F i).l+3 else(F i).h else(oA F i a).h),AV.int .i64 (bif decide (a=i)then(F i).b else(oA F i a).b)]) λj=>aF (oA F (i+1) j):=λj _ σ=>by
    have e:=VO F i j
    rw[g]at e
    dsimp only
    rw[e]
    cases decide (j=i)
    ·exact cL σ (oA F i j)
    ·exact cL σ (zT (F i))
   have G:aN .i64 ((F i).l+3)=true:=aq O O
   have H:aN .i64 ((if(F i).l+3<(F i).h then(F i).l+3 else(F i).h)-(F i).l)=true:=by split<;>exact aq O O
   have I:aN .i64 ((eD (zT (F i)):Nat):Int)=true:=aq O O
   have J:aN .i64 (Dj F i*((eD (zT (F i)):Nat):Int))=true:=by
    rw[D,<-Int.natCast_mul];exact aq O O
   have K:aN .i64 ((i:Int)+1)=true:=aq O O
   rw[G,H,I,J,K]
   have hq:=hQ f
   repeat' (first|exact row|exact hq|exact m.symm|with_reducible exact trivial|with_reducible rfl|with_reducible exact bC _ _|with_reducible exact bO _ _|with_reducible exact aZ|with_reducible refine YG ?_ ?_|with_reducible refine Zf ?_ ?_|with_reducible refine Zi ?_ ?_|with_reducible refine Ze ?_ ?_|with_reducible refine And.intro ?_ ?_)
  ·have e:i=k:=by omega
   subst e
   have row:=HA M (oA F i)
   repeat' (first|exact row|with_reducible exact trivial|with_reducible rfl|with_reducible exact bC _ _|with_reducible exact bO _ _|with_reducible exact aZ|with_reducible refine YG ?_ ?_|with_reducible refine Zf ?_ ?_|with_reducible refine Zi ?_ ?_|with_reducible refine And.intro ?_ ?_)
 exact go _ λh=>⟨O,O,rfl⟩
theorem VQ{q:Query}{k M:Nat}{F:Nat->ay}(X:k<=M)(Y:k<=4)(P:∀j,j<k->bB (F j)=true)(p:Int)(g d:Nat)(f:Nat->Nat->Int)(m:Nat->Nat->List UInt8)(LS MS:Nat->Nat->List UInt8)(n:Nat)(Z:n<=256):
  aE PP II false (aD II 4 23004) 19 (Vn q k M F p g d f m LS MS n Int.toNat (ta F n) (λi=>((zl (λj=>eD (F j)) n i.toNat:Nat):Int)) (false,0)) (Vo q k M F p g d f m LS MS n (ta F n)):=by
 have key:=aE.of (ι:=Bool×Int) iw [] (bm PP II []) 1000 (c:=aD II 4 23004) (ir:=false) 19 (λx=>match x.1 with
   |true=> ∃i:Nat,x.2=(i:Int)/\0<i/\i<=k
   |false=>x.2=0) (Vn q k M F p g d f m LS MS n Int.toNat (ta F n) (λi=>((zl (λj=>eD (F j)) n i.toNat:Nat):Int))) (λ_=>Vo q k M F p g d f m LS MS n (ta F n)) (λx=>match x.1 with
   |true=>k-x.2.toNat
   |false=>k+1) (λx=>(true,x.2+1)) (false,0) A A λx hx=>?_
 ·exact key
 have ek:Int.ofNat k=(k:Int):=rfl
 have le:∀i,zl (λj=>eD (F j)) n i<=n:=λi=>by
  induction i with
  |zero=>exact dw _
  |succ i R=>exact Nat.le_trans (Nat.div_le_self _ _) R
 have s:∀i:Nat,i<k->(F i).h-(F i).l+1=((eD (F i):Nat):Int)/\0<eD (F i)/\(0<=(F i).l/\(F i).l<=(F i).h/\(F i).h<=4398046511104):=λi hi=>by
  have v:=(jx (P i hi)).1
  unfold eD
  exact⟨O,O,v⟩
 have o:∀i:Nat,(F i).l+Int.tmod ((zl (λj=>eD (F j)) n i:Nat):Int) ((eD (F i):Nat):Int)=ta F n i:=λi=>rfl
 have r:∀i:Nat,Int.tdiv ((zl (λj=>eD (F j)) n i:Nat):Int) ((eD (F i):Nat):Int)=((zl (λj=>eD (F j)) n (i+1):Nat):Int):=λi=>rfl
 have u:∀i:Nat,i<k->ta F n i<=4398046511104+0/\0<=ta F n i:=λi hi=>by
  have:=LI P n i hi
  have:=(s i hi).2.2
  omega
 have y:∀(i:Nat)(Q:Prop),i<=k->(i<k->Q)->kr (ι:=Bool×Int) [] [] 4 23004 19 (Vn q k M F p g d f m LS MS n Int.toNat (ta F n) (λi=>((zl (λj=>eD (F j)) n i.toNat:Nat):Int))) (λ_=>Vo q k M F p g d f m LS MS n (ta F n)) (λx=>(true,x.2+1)) Q (true,(i:Int)):=λi Q hi hQ=>by
  rw[VG,show Int.toNat (i:Int)=i from rfl,show Int.toNat ((i:Int)+1)=i+1 by omega]
  refine Zg (λh=>?_) λh=>?_
  ·have a:i<k:=by omega
   obtain⟨C,S,T⟩:=s i a
   obtain⟨d1,U⟩:=u i a
   have D:(decide ((0:Int)<=i)&&decide ((i:Int)<Int.ofNat k))=true:=by simp only[bf,bn];omega
   have E:(decide (i<M))=true:=bW O
   rw[C,o i,r i,D,E]
   have G:aN .i64 ((F i).h-(F i).l)=true:=aq O O
   have H:aN .i64 ((eD (F i):Nat):Int)=true:=aq O O
   have I:(!decide (((eD (F i):Nat):Int)=0))=true:=by rw[nZ O];rfl
   have J:aN .i64 (ta F n i)=true:=aq O O
   have K:aN .i64 ((zl (λj=>eD (F j)) n (i+1):Nat):Int)=true:=by
    have:=le (i+1)
    exact aq O O
   have L:aN .i64 ((i:Int)+1)=true:=aq O O
   have V:(decide (i<=i)&&true&&true&&decide ((i+1)*8<=140737488355328)&&true)=true:=by
    rw[bW (dw i),bW (O:(i+1)*8<=140737488355328)];rfl
   have row:an (i+1) (λt=>bif Nat.blt t i then ae (ta F n) t else List.take 1 (List.drop (0+(t-i)*1) [AV.int .i64 (ta F n i)])) (ae (ta F n)):=λj w σ=>by
    dsimp only
    by_cases e:j<i
    ·rw[eV e];exact pr _ _ _
    ·rw[js e,show j=i by omega,Nat.sub_self]
     exact pr σ _ i
   rw[G,H,I,J,K,L,V,Bool.and_self]
   have hq:=hQ a
   exact ZH
  ·have e:i=k:=by omega
   subst e
   exact ZI
 have N:∀(i:Int)(Q:Prop),i=0->(0<k->Q)->kr (ι:=Bool×Int) [] [] 4 23004 19 (Vn q k M F p g d f m LS MS n Int.toNat (ta F n) (λi=>((zl (λj=>eD (F j)) n i.toNat:Nat):Int))) (λ_=>Vo q k M F p g d f m LS MS n (ta F n)) (λx=>(true,x.2+1)) Q (false,i):=λi Q hi hQ=>by
  subst hi
  rw[Ve,show Int.toNat (0:Int)=0 from rfl,show Int.toNat ((0:Int)+1)=1 from rfl]
  refine Zg (λh=>?_) λh=>?_
  ·have a:0<k:=by omega
   obtain⟨C,S,T⟩:=s 0 a
   obtain⟨d1,U⟩:=u 0 a
   have D:(decide ((0:Int)<=0)&&decide ((0:Int)<Int.ofNat k))=true:=by simp only[bf,bn];omega
   have E:(decide (0<M))=true:=bW O
   rw[C,o 0,r 0,D,E]
   have G:aN .i64 ((F 0).h-(F 0).l)=true:=aq O O
   have H:aN .i64 ((eD (F 0):Nat):Int)=true:=aq O O
   have I:(!decide (((eD (F 0):Nat):Int)=0))=true:=by rw[nZ O];rfl
   have J:aN .i64 (ta F n 0)=true:=aq O O
   have K:aN .i64 ((zl (λj=>eD (F j)) n (0+1):Nat):Int)=true:=by
    have:=le (0+1)
    exact aq O O
   have L:aN .i64 ((0:Int)+1)=true:=aq O O
   have row:an 1 (fW [AV.int .i64 (ta F n 0)] 1) (ae (ta F n)):=λj w σ=>by
    rw[show j=0 by omega]
    exact pr σ _ 0
   rw[G,H,I,J,K,L,Bool.and_self]
   have hq:=hQ a
   exact ZH
  ·have e:k=0:=by omega
   subst e
   exact ZI
 obtain⟨b,i⟩:=x
 cases b with
 |true=>
  obtain⟨j,w,h1,W⟩:=hx
  have w:i=(j:Int):=w
  subst w
  exact y j _ W λh=>⟨⟨j+1,by show(j:Int)+1=_;omega,O,O⟩,by show k-((j:Int)+1).toNat<k-(j:Int).toNat;omega,rfl⟩
 |false=>
  have hx:i=0:=hx
  exact N i _ hx λh=>⟨⟨1,by show i+1=_;omega,O,O⟩,by show k-(i+1).toNat<k+1;omega,rfl⟩
end Go.Sx
end
