/- The proof of a statement of the seat, part 40. -/
import Derived.Test.YtoijalagmmgkbaaGreatDoorX38
import Derived.Test.YtoijalagmmgkbaaGreatDoorX39
import Derived.Test.YtoijalagmmgkbaaGreatDoorX20
set_option linter.all false
set_option linter.defProp false
section
set_option maxRecDepth 100000
namespace Go.Sx
open Go
structure Alike (c p:Query):Prop where
 ng:c.ng=p.ng
 G:c.G=p.G
 a:c.a=p.a
 fl:c.fl=p.fl
 nu:c.nu=p.nu
 de:c.de=p.de
 ok:∀x b,qS c x b=qS p x b
theorem Alike.symm{q p:Query}(h:Alike q p):Alike p q:=⟨h.ng.symm,h.G.symm,h.a.symm,h.fl.symm,h.nu.symm,h.de.symm,λx d=>(h.ok x d).symm⟩
theorem Sp(W:Nat->Int):∀k,0<k->∃j,j<k/\jc W k=W j
 |1,_=>⟨0,O,by show(if W 0<W 0 then W 0 else W 0)=_;split<;>rfl⟩
 |k+2,_=>by
  obtain⟨j,a,e⟩:=Sp W (k+1) O
  show ∃j,j<k+2/\(if W (k+1)<jc W (k+1)then W (k+1)else jc W (k+1))=W j
  split
  ·exact⟨k+1,O,rfl⟩
  ·exact⟨j,O,e⟩
theorem Vh{q:Query}{x:ay}{j:Nat}(a:j<jQ q x):qS q x (fT q x j)=true:=by
 refine QP (k:=3*(q.nw+2)) ?_
 unfold fT
 rw[List.getD_eq_getElem?_getD,mo a]
 exact List.getElem_mem _
theorem Vj{q:Query}{x:ay}{d:Int}(h:qS q x d=true):x.l<=d/\d<=x.h:=(Lu.1 h).1
theorem least_le{q:Query}{x:ay}{d:Int}(a:eU q=true)(h:qS q x d=true):jc (fT q x) (jQ q x)<=d:=by
 have:=Vj h
 obtain⟨m,b,c⟩:=Ov a (d-x.l).toNat d O h
 exact Int.le_trans (Du _ _ _ b) c
theorem Vn{q:Query}{x:ay}{d:Int}(a:eU q=true)(h:qS q x d=true):d<=cG (fT q x) (jQ q x):=by
 have:=Vj h
 obtain⟨m,b,c⟩:=Hs a (x.h-d).toNat d O h
 exact Int.le_trans c (xu _ _ _ b)
theorem QI{q:Query}{x:ay}(a:eU q=true)(b:gk q x=true):qS q x (jc (fT q x) (jQ q x))=true:=by
 obtain⟨j,c,e⟩:=Sp (fT q x) _ (wX a b)
 rw[e];exact Vh c
theorem S8{q:Query}{x:ay}(a:eU q=true)(b:gk q x=true):qS q x (cG (fT q x) (jQ q x))=true:=by
 obtain⟨j,c,e⟩:=pH (fT q x) _ (wX a b)
 rw[e];exact Vh c
theorem TM{q p:Query}{x:ay}(h:Alike q p)(c:eU q=true)(d:eU p=true)(hx:bB x=true):gk q x=gk p x/\kR q x=kR p x/\lJ q x=lJ p x/\Br q x=Br p x:=by
 have b:gk q x=gk p x:=Bool.eq_iff_iff.2 ((Dj c).trans (Iff.trans (by simp only[h.ok]) (Dj d).symm))
 have e:jA q x=jA p x:=Bool.eq_iff_iff.2 ((P4 c hx).trans (Iff.trans (by simp only[h.ok]) (P4 d hx).symm))
 refine⟨b,?_,?_,by unfold Br;rw[b,e]⟩
 ·unfold kR
  rw[b,e,h.a,h.fl]
  cases hm:gk p x with
  |false=>rfl
  |true=>
   rw[hm]at b
   have:jc (fT q x) (jQ q x)=jc (fT p x) (jQ p x):=Int.le_antisymm (least_le c ((h.ok _ _).trans (QI d hm))) (least_le d ((h.ok _ _).symm.trans (QI c b)))
   rw[this]
 ·unfold lJ
  rw[b,e,h.a,h.fl]
  cases hm:gk p x with
  |false=>rfl
  |true=>
   rw[hm]at b
   have:cG (fT q x) (jQ q x)=cG (fT p x) (jQ p x):=Int.le_antisymm (Vn d ((h.ok _ _).symm.trans (S8 c b))) (Vn c ((h.ok _ _).trans (S8 d hm)))
   rw[this]
theorem Dl{q p:Query}(h:Alike q p)(a:eU q=true)(b:eU p=true)(F:Nat->ay):∀i,(∀j,j<i->bB (F j)=true)->aV q F i=aV p F i
 |0,_=>rfl
 |i+1,c=>by
  obtain⟨d,e,f,g⟩:=TM h a b (c i (Nat.lt_succ_self i))
  show km q (aV q F i) i (F i)=km p (aV p F i) i (F i)
  rw[Dl h a b F i λj l=>c j O]
  have k1:bc q (F i)=bc p (F i):=by unfold bc;rw[h.G]
  have k:FA q (F i)=FA p (F i):=by unfold FA;rw[h.ng,k1]
  unfold km
  rw[d,e,f,g,k1,k]
theorem Sq{q p:Query}(h:Alike q p):eO q=eO p/\dQ q=dQ p/\c8 q=c8 p/\da q=da p:=by
 obtain⟨nw,C,ng,G,a,fl,nu,de,top⟩:=q
 obtain⟨c,o,d,r,a',e,f,g,b⟩:=p
 obtain⟨i,j,k,l,m,n,_⟩:=h
 cases i;cases j;cases k;cases l;cases m;cases n
 exact⟨rfl,rfl,rfl,rfl⟩
theorem QL{q p:Query}(h:Alike q p):og q=og p/\jC q=jC p/\yc q=yc p:=by
 obtain⟨b,c,_,_⟩:=Sq h
 have a:jC q=jC p:=by
  funext X i k
  unfold jC
  rw[b,c]
 refine⟨by funext gs i;unfold og;rw[h.ng],a,by funext X;unfold yc;rw[h.ng,a]⟩
theorem Vo{q p:Query}(h:q.top=p.top):ju q=ju p/\cS q=cS p:=by
 have e:cQ q=cQ p:=by funext m S i;unfold cQ;rw[h]
 constructor
 ·funext m S;unfold ju;rw[h,e]
 ·funext m S j;unfold cS;rw[h,e]
theorem VN{q p:Query}(h:Alike q p)(ht:q.top=p.top)(d:eU q=true)(e:eU p=true){k:Nat}{F:Nat->ay}(f:∀j,j<k->bB (F j)=true):r8 q k F=r8 p k F/\FM q k F=FM p k F/\oU q k F=oU p k F:=by
 have t:=Dl h d e F k f
 obtain⟨a,g,b⟩:=QL h
 obtain⟨i,c⟩:=Vo ht
 refine⟨?_,?_,?_⟩
 ·unfold r8;rw[t,a,b,i]
 ·funext j;unfold FM;rw[t,a,b,c]
 ·funext j;unfold oU;rw[t,a,g,b,c]
end Go.Sx
end
section
set_option maxRecDepth 100000
namespace Go.Sx
open Go Go.Sort Go.Shelf Go.Proofs
theorem Dm.Vp{l m:List Int}(h:l.Perm m):Dm l m:=⟨h.length_eq,λx=>by rw[h.countP_eq];exact dw _⟩
theorem lowest{a b c d:Nat}(e:Nat.Coprime a b)(f:Nat.Coprime c d)(h:a*d=c*b):a=c/\b=d :=
 ⟨Nat.dvd_antisymm (e.dvd_of_dvd_mul_right ⟨d,h.symm⟩) (f.dvd_of_dvd_mul_right ⟨b,h⟩),Nat.dvd_antisymm (e.symm.dvd_of_dvd_mul_left ⟨c,h.trans (Nat.mul_comm c b)⟩) (f.symm.dvd_of_dvd_mul_left ⟨a,h.symm.trans (Nat.mul_comm a d)⟩)⟩
theorem YQ{q:Query}{k j:Nat}{a b:Nat->Int}(c:lY (tv (pS q k a)) (tv (pS q j b)))(d:lY (tv (pS q j b)) (tv (pS q k a))):pS q k a=pS q j b:=by
 have e:=Nat.coprime_div_gcd_div_gcd (m:=(jO q k a).1) (n:=(jO q k a).2) (Nat.gcd_pos_of_pos_right _ (u9 q k a))
 have f:=Nat.coprime_div_gcd_div_gcd (m:=(jO q j b).1) (n:=(jO q j b).2) (Nat.gcd_pos_of_pos_right _ (u9 q j b))
 unfold lY tv pS c8 da at c d
 simp only[cq]at c d
 obtain⟨g,h⟩:=lowest e f (Nat.le_antisymm c d)
 unfold pS c8 da
 rw[g,h]
theorem LH{q:Query}{k j:Nat}{a b:Nat->Int}(h:((List.range k).map a).Perm ((List.range j).map b)):pS q k a=pS q j b:=by
 have e:k=j:=by simpa using h.length_eq
 subst e
 exact YQ (Oo (Dm.Vp h)) (Oo (Dm.Vp h.symm))
theorem Q7{f:Nat->Int}:∀{m:List Int}{l:List Nat},m.Perm (l.map f)->∃c:List Nat,c.Perm l/\c.map f=m
 |[],l,h=>by
  have:l=[]:=by
   have:=h.length_eq
   rw[List.length_map]at this
   exact List.length_eq_zero_iff.1 this.symm
  exact⟨[],by rw[this],rfl⟩
 |b::m,l,h=>by
  obtain⟨a,ha,e⟩:=List.mem_map.1 (h.mem_iff.1 (List.mem_cons_self (a:=b) (l:=m)))
  have p:=List.perm_cons_erase ha
  have d:(b::m).Perm (b::(l.erase a).map f):=h.trans (by have:=List.Perm.map f p;rw[List.map_cons,e]at this;exact this)
  obtain⟨c,g,i⟩:=Q7 d.cons_inv
  exact⟨a::c,(g.cons a).trans p.symm,by rw[List.map_cons,e,i]⟩
theorem Sr{k:Nat}(i:Nat){L:Nat->Int}{C:Nat->Bool}{M:List Int}(g:M.Perm (((List.range k).filter λj=>!C j).map L)):
  ∃p:Nat->Bool,(∀j,C j=true->p j=true)/\(((List.range k).filter p).map L).Perm (((List.range k).filter C).map L++M.take i):=by
 obtain⟨l,f,m⟩:=Q7 g
 refine⟨λ(j:Nat)=>C j||decide (j∈l.take i),λj h=>by simp[h],?_⟩
 rw[<-m,<-List.map_take,<-List.map_append]
 refine List.Perm.map L ?_
 have n:l.Nodup:=f.nodup_iff.2 (List.Pairwise.filter _ List.nodup_range)
 have inl:∀a,a∈l->a<k/\C a=false:=λa ha=>by
  obtain⟨d,c⟩:=List.mem_filter.1 (f.mem_iff.1 ha)
  exact⟨List.mem_range.1 d,by simpa using c⟩
 refine(List.perm_ext_iff_of_nodup (List.Pairwise.filter _ List.nodup_range) (List.nodup_append.2 ⟨List.Pairwise.filter _ List.nodup_range,n.sublist (List.take_sublist _ _),λa ha b o e=>?_⟩)).2 λa=>?_
 ·obtain⟨_,c⟩:=List.mem_filter.1 ha
  have:=(inl b (List.mem_of_mem_take o)).2
  rw[<-e,c]at this
  cases this
 ·rw[List.mem_filter,List.mem_append,List.mem_filter,Bool.or_eq_true,bn]
  constructor
  ·rintro⟨d,c|c⟩
   ·exact .inl ⟨d,c⟩
   ·exact .inr c
  ·rintro(⟨d,c⟩|c)
   ·exact⟨d,.inl c⟩
   ·exact⟨List.mem_range.2 (inl a (List.mem_of_mem_take c)).1,.inr c⟩
theorem Vq{better:Int->Bool}(q:Query)(k:Nat)(L:Nat->Int)(C:Nat->Bool)(l:List Int)(b:l.Perm ((List.range (aP (λj=>!C j) k)).map (bS (λj=>!C j) L k))):
  ∃p:Nat->Bool,(∀j,C j=true->p j=true)/\aS better (bN q (aP C k) (bS C L k) λj=>l.getD j 0) (aP (λj=>!C j) k)=pS q (aP p k) (bS p L k):=by
 rw[nf]at b
 have hl:=b.length_eq
 rw[List.length_map]at hl
 obtain⟨i,hi,e⟩:=Zx (better:=better) (R:=bN q (aP C k) (bS C L k) λj=>l.getD j 0) (aP (λj=>!C j) k)
 obtain⟨a,a1,a2⟩:=Oq q k L C l i (by rw[hl];exact hi)
 obtain⟨p,c,d⟩:=Sr i b
 exact⟨p,c,by rw[e,a1];exact LH (by rw[a2,nf];exact d.symm)⟩
theorem TO{better:Int->Bool}(q:Query)(k:Nat)(L:Nat->Int)(C:Nat->Bool)(d:(List.range k).any C=false)(l:List Int)(b:l.Perm ((List.range k).map L)):
  ∃p:Nat->Bool,(∀j,j<k->C j=true->p j=true)/\aS better (br q λj=>l.getD j 0) k=pS q (aP p k) (bS p L k):=by
 obtain⟨n1,f⟩:=Hr d
 have hl:=b.length_eq
 rw[List.length_map,List.length_range]at hl
 rw[<-f]at b
 obtain⟨i,hi,e⟩:=Zx (better:=better) (R:=br q λj=>l.getD j 0) k
 obtain⟨a,a1,a2⟩:=Hq q l i (by rw[hl];exact hi)
 obtain⟨p,g,c⟩:=Sr i b
 rw[n1,List.map_nil,List.nil_append]at c
 exact⟨p,λj _=>g j,by rw[e,a1];exact LH (by rw[a2,nf];exact c.symm)⟩
theorem YR(q:Query)(k:Nat)(L:Nat->Int)(C:Nat->Bool):∃p:Nat->Bool,(∀j,j<k->C j=true->p j=true)/\eO q k L C=pS q (aP p k) (bS p L k):=by
 unfold eO
 cases a:(List.range k).any C with
 |true=>
  obtain⟨p,b,d⟩:=Vq (better:=λc=>decide (c<0)) q k L C _ (gq (aP (λi=>!C i) k) (bS (λi=>!C i) L k)).2
  exact⟨p,λj _=>b j,d⟩
 |false=>exact TO q k L C a _ (gq k L).2
theorem WA(q:Query)(k:Nat)(G:Nat->Int)(C:Nat->Bool):∃p:Nat->Bool,(∀j,j<k->C j=true->p j=true)/\dQ q k G C=pS q (aP p k) (bS p G k):=by
 unfold dQ
 cases a:(List.range k).any C with
 |true=>
  obtain⟨p,b,d⟩:=Vq (better:=λc=>decide (c>0)) q k G C _ (sd (aP (λi=>!C i) k) (bS (λi=>!C i) G k)).2
  exact⟨p,λj _=>b j,d⟩
 |false=>exact TO q k G C a _ (sd k G).2
structure Zo (Y1:bj) (i:Nat):Prop where
 lt:∀a,a<Y1.m->Y1.T a<i
 up:∀a b,a<b->b<Y1.m->Y1.T a<Y1.T b
theorem Ss(q:Query)(F:Nat->ay):∀i j,j<(aV q F i).length->Zo (aK (aV q F i) j) i
 |0,j,d=>absurd d ZE
 |i+1,l,hl=>by
  have k:=Ss q F i
  have c:∀j,j<(aV q F i).length->Zo (aK (aV q F i) j) (i+1:Nat):=λj d=>⟨λa ha=>by have:=(k j d).lt a ha;omega,(k j d).up⟩
  revert hl
  show l<(km q (aV q F i) i (F i)).length->Zo (aK (km q (aV q F i) i (F i)) l) (i+1:Nat)
  unfold km
  cases gk q (F i)with
  |false=>exact c l
  |true=>
   simp only[cond_true]
   split
   ·rename_i j o
    obtain⟨d,_⟩:=lF o
    intro hl
    rw[List.length_set]at hl
    rw[gg d]
    by_cases h:l=j
    ·rw[if_pos h]
     obtain⟨n,p⟩:=k j d
     have old:∀a,a<(aK (aV q F i) j).m->gV (aK (aV q F i) j).T (aK (aV q F i) j).m (i:Int) a=(aK (aV q F i) j).T a:=λa ha=>by
      unfold gV
      rw[if_neg O]
     have new:gV (aK (aV q F i) j).T (aK (aV q F i) j).m (i:Int) (aK (aV q F i) j).m=i:=by
      unfold gV
      rw[if_pos A]
     refine⟨λa ha=>?_,λa b f g=>?_⟩
     ·have ha:a<(aK (aV q F i) j).m+1:=ha
      show gV _ _ _ a<_
      by_cases e:a=(aK (aV q F i) j).m
      ·rw[e,new];omega
      ·rw[old a O];have:=n a O;omega
     ·have g:b<(aK (aV q F i) j).m+1:=g
      show gV _ _ _ a<gV _ _ _ b
      rw[old a O]
      by_cases e:b=(aK (aV q F i) j).m
      ·rw[e,new];exact n a O
      ·rw[old b O];exact p a b f O
    ·rw[if_neg h];exact c l hl
   ·intro hl
    rw[gh]
    by_cases h:l=(aV q F i).length
    ·rw[if_pos h]
     refine⟨λa _=>?_,λa b f g=>?_⟩
     ·show(i:Int)<(i+1:Nat);omega
     ·have g:b<1:=g
      omega
    ·rw[if_neg h];exact c l (by simp at hl;omega)
theorem VG{q:Query}{k:Nat}{F:Nat->ay}{g:bj}(G:eU q=true)(H:∀j,j<k->bB (F j)=true)(I:oc q F k g)(hI:Zo g k)(p:Nat->Bool)(N:∀j,j<g.m->g.C j=true->p j=true)(V:Nat->Int)
  (P:∀j,j<g.m->q.fl=8->qS q (F (g.T j).toNat) (V j)=true) (Q:∀j,j<g.m->q.fl≠8->g.L j=V j):
  ∃D,r9 k F D/\∀r,(∀f,f<k->r f=D f)->pS q (yd q F r g) (uq q F r g)=pS q (aP p g.m) (bS p V g.m):=by
 have one:∀a b,a<g.m->b<g.m->g.T a=g.T b->a=b:=λa b ha R e=>by
  rcases Nat.lt_trichotomy a b with h|h|h
  ·have:=hI.up a b h R;omega
  ·exact h
  ·have:=hI.up b a h ha;omega
 have ex:∀f,f<k->∃d,(F f).l<=d/\d<=(F f).h/\∀j,j<g.m->g.T j=(f:Int)->qS q (F f) d=p j/\(p j=true->q.fl=8->d=V j):=λf t=>by
  have S:(F f).l<=(F f).h:=((jx (H f t)).1).2.1
  by_cases o:∃j,j<g.m/\g.T j=(f:Int)
  ·obtain⟨j,i,u⟩:=o
   obtain⟨n,f1,J,K,_,_,f6⟩:=I j i
   have U:n=f:=O
   subst U
   have only:∀d,qS q (F n) d=p j/\(p j=true->q.fl=8->d=V j)->∀s,s<g.m->g.T s=(n:Int)->qS q (F n) d=p s/\(p s=true->q.fl=8->d=V s):=λd h s W Z=>by
    rw[one s j W i O];exact h
   cases hp:p j with
   |true=>
    by_cases e:q.fl=8
    ·have:=P j i e
     rw[u]at this
     obtain⟨w,x⟩:=Vj this
     exact⟨V j,w,x,only _ ⟨by rw[hp];exact this,λ_ _=>rfl⟩⟩
    ·obtain⟨d,M⟩:=(Dj G).1 K
     obtain⟨w,x⟩:=Vj M
     exact⟨d,w,x,only _ ⟨by rw[hp];exact M,λ_ c=>absurd c e⟩⟩
   |false=>
    have X:jA q (F n)=false:=by
     cases hm:jA q (F n)with
     |false=>rfl
     |true=>
      have:=N j i (by rw[f6];unfold Br;rw[K,hm];rfl)
      rw[hp]at this;cases this
    have:∃d,(F n).l<=d/\d<=(F n).h/\qS q (F n) d=false:=Classical.byContradiction λc=>by
     have:=(P4 G (H n t)).2 λd d1 y=>by
      cases h:qS q (F n) d with
      |true=>rfl
      |false=>exact absurd ⟨d,d1,y,h⟩ c
     rw[X]at this;cases this
    obtain⟨d,d1,y,Y⟩:=this
    exact⟨d,d1,y,only _ ⟨by rw[hp];exact Y,λc=>by rw[hp]at c;cases c⟩⟩
  ·exact⟨(F f).l,Int.le_refl _,S,λj i u=>absurd ⟨j,i,u⟩ o⟩
 refine⟨λf=>if h:f<k then Classical.choose (ex f h)else 0,λf t=>?_,λr E=>?_⟩
 ·have:=Classical.choose_spec (ex f t)
  show(F f).l<=(if h:f<k then _ else _)/\(if h:f<k then _ else _)<=_
  rw[dif_pos t]
  exact⟨this.1,this.2.1⟩
 ·have v:∀j,j<g.m->qS q (F (g.T j).toNat) (r (g.T j).toNat)=p j/\(p j=true->q.fl=8->r (g.T j).toNat=V j):=λj o=>by
   obtain⟨f,f1,J,_⟩:=I j o
   rw[show(g.T j).toNat=f by omega,E f f1]
   show qS q (F f) (if h:f<k then _ else _)=_/\(_->_->(if h:f<k then _ else _)=_)
   rw[dif_pos f1]
   exact(Classical.choose_spec (ex f f1)).2.2 j o J
  refine LH ?_
  unfold yd uq
  rw[nf,nf]
  refine List.Perm.of_eq ?_
  rw[show(List.range g.m).filter (uG q F r g.T)=(List.range g.m).filter p from List.filter_congr λj o=>(v j (List.mem_range.1 o)).1]
  refine List.map_congr_left λj o=>?_
  obtain⟨i,u⟩:=List.mem_filter.1 o
  have i:=List.mem_range.1 i
  unfold Rb
  by_cases e:q.fl=8
  ·rw[if_pos e];exact(v j i).2 u e
  ·rw[if_neg e];exact Q j i e
theorem UZ{q:Query}{x:ay}(c:eU q=true)(hx:bB x=true)(d:gk q x=true):(q.fl=8->qS q x (kR q x)=true/\qS q x (lJ q x)=true)/\(q.fl≠8->kR q x=lJ q x):=by
 have ha:(q.a=1/\q.fl=0)∨(q.a≠1/\(q.fl=7∨q.fl=8)):=by
  have:=c
  unfold eU EV at this
  simp only[bf,Bool.or_eq_true,bn]at this
  omega
 have f:x.l<=x.h:=((jx hx).1).2.1
 unfold kR lJ
 rw[d]
 constructor
 ·intro e
  show qS q x (if q.a=1 then 1 else if q.fl=7 then x.b else _)=true/\qS q x (if q.a=1 then 1 else if q.fl=7 then x.b else _)=true
  rw[if_neg O,if_neg O,if_neg O,if_neg O]
  cases g:jA q x with
  |true=>exact⟨FX c hx g (Int.le_refl _) f,FX c hx g f (Int.le_refl _)⟩
  |false=>exact⟨QI c d,S8 c d⟩
 ·intro e
  show(if q.a=1 then 1 else if q.fl=7 then x.b else _)=(if q.a=1 then 1 else if q.fl=7 then x.b else _)
  rcases ha with⟨a1,_⟩|⟨a1,a2⟩
  ·rw[if_pos a1,if_pos a1]
  ·rw[if_neg a1,if_neg a1,if_pos O,if_pos O]
theorem WB{q:Query}{k:Nat}{F:Nat->ay}{a:bj}(d:eU q=true)(g:∀j,j<k->bB (F j)=true)(h:oc q F k a)(hI:Zo a k):
  (∃D,r9 k F D/\∀b,(∀f,f<k->b f=D f)->pS q (yd q F b a) (uq q F b a)=eO q a.m a.L a.C)/\∃D,r9 k F D/\∀b,(∀f,f<k->b f=D f)->pS q (yd q F b a) (uq q F b a)=dQ q a.m a.G a.C:=by
 obtain⟨p,l,n⟩:=YR q a.m a.L a.C
 obtain⟨r,r1,o⟩:=WA q a.m a.G a.C
 rw[n,o]
 have i:∀j,j<a.m->(q.fl=8->qS q (F (a.T j).toNat) (a.L j)=true/\qS q (F (a.T j).toNat) (a.G j)=true)/\(q.fl≠8->a.L j=a.G j):=λj c=>by
  obtain⟨f,f1,u,s,t,f5,_⟩:=h j c
  rw[show(a.T j).toNat=f by omega,t,f5]
  exact UZ d (g f f1) s
 exact⟨VG d g h hI p l a.L (λj c e=>((i j c).1 e).1) λ_ _ _=>rfl,VG d g h hI r r1 a.G (λj c e=>((i j c).1 e).2) λj c e=>(i j c).2 e⟩
def Su(a:Nat->Nat)(n:Nat):Nat->Nat
 |0=>n
 |i+1=>Su a n i/a i
def Sv(a:Nat->Nat):Nat->Nat
 |0=>1
 |i+1=>Sv a i*a i
theorem VH(a:Nat->Nat)(n:Nat):∀i,Su a n (i+1)=Su (λj=>a (j+1)) (n/a 0) i
 |0=>rfl
 |i+1=>by
  show Su a n (i+1)/a (i+1)=Su (λj=>a (j+1)) (n/a 0) i/a (i+1)
  rw[VH a n i]
theorem VI(a:Nat->Nat):∀k,Sv a (k+1)=a 0*Sv (λj=>a (j+1)) k
 |0=>by show 1*a 0=a 0*1;omega
 |k+1=>by
  show Sv a (k+1)*a (k+1)=a 0*(Sv (λj=>a (j+1)) k*a (k+1))
  rw[VI a k,Nat.mul_assoc]
theorem digits:∀(k:Nat)(a e:Nat->Nat),(∀i,i<k->e i<a i)->∃n,n<Sv a k/\∀i,i<k->Su a n i%a i=e i
 |0,_,_,_=>⟨0,Nat.one_pos,λi hi=>absurd hi (lZ _)⟩
 |k+1,a,e,h=>by
  obtain⟨n,n1,c⟩:=digits k (λj=>a (j+1)) (λj=>e (j+1)) λi hi=>h (i+1) O
  have b:=h 0 O
  refine⟨e 0+a 0*n,?_,λi hi=>?_⟩
  ·rw[VI]
   have:=Nat.mul_le_mul_left (a 0) (show n+1<=_ from n1)
   rw[Nat.mul_add,Nat.mul_one]at this
   omega
  ·cases i with
   |zero=>
    show(e 0+a 0*n)%a 0=e 0
    rw[Nat.add_mul_mod_self_left,Nat.mod_eq_of_lt b]
   |succ i=>
    rw[VH,Nat.add_mul_div_left _ _ O,Nat.div_eq_of_lt b,Nat.zero_add]
    exact c i O
end Go.Sx
end
section
set_option maxRecDepth 100000
namespace Go.Sx
open Go Go.Sort Go.Shelf Go.Proofs
structure Full (e:Query) (b:Nat->ay) (gs:List bj) (i:Nat):Prop where
 list:∀c,c<gs.length->(List.range (aK gs c).m).map (λa=>((aK gs c).T a).toNat)=(List.range i).filter λf=>gk e (b f)&&decide (FA e (b f)=(aK gs c).key)
 all:∀f,f<i->gk e (b f)=true->∃c,c<gs.length/\(aK gs c).key=FA e (b f)
theorem Hp(p:Nat->Bool)(i:Nat):(List.range (i+1)).filter p=(List.range i).filter p++if p i=true then [i]else []:=by
 rw[List.range_succ,List.filter_append]
 cases hp:p i<;>simp[hp]
theorem Il(q:Query)(F:Nat->ay):∀i,Full q F (aV q F i) i
 |0=>⟨λj b=>absurd b ZE,λf d=>absurd d (lZ _)⟩
 |i+1=>by
  obtain⟨n,o⟩:=Il q F i
  have r:=tj q F i
  show Full q F (km q (aV q F i) i (F i)) (i+1)
  unfold km
  cases hm:gk q (F i)with
  |false=>
   refine⟨λj b=>?_,λf d g=>?_⟩
   ·rw[Hp,if_neg (by rw[hm];simp),List.append_nil];exact n j b
   ·have:f≠i:=λe=>by rw[e,hm]at g;cases g
    exact o f O g
  |true=>
   simp only[cond_true]
   split
   ·rename_i j d
    obtain⟨b,k⟩:=lF d
    have k:(aK (aV q F i) j).key=FA q (F i):=k
    refine⟨λl hl=>?_,λf p g=>?_⟩
    ·rw[List.length_set]at hl
     rw[gg b,Hp]
     by_cases h:l=j
     ·rw[if_pos h]
      have s:=n j b
      show(List.range ((aK (aV q F i) j).m+1)).map (λa=>(gV (aK (aV q F i) j).T (aK (aV q F i) j).m (i:Int) a).toNat)=(List.range i).filter (λf=>gk q (F f)&&decide (FA q (F f)=(aK (aV q F i) j).key))++if(gk q (F i)&&decide (FA q (F i)=(aK (aV q F i) j).key))=true then [i]else []
      rw[if_pos (by rw[hm,k];simp),<-s,List.range_succ,List.map_append]
      congr 1
      ·refine List.map_congr_left λa ha=>?_
       have:=List.mem_range.1 ha
       unfold gV
       rw[if_neg O]
      ·show [(gV _ _ _ _).toNat]=[i]
       unfold gV
       rw[if_pos A];rfl
     ·rw[if_neg h,n l hl,if_neg (λc=>?_),List.append_nil]
      rw[hm,Bool.true_and,bn]at c
      exact r.apart l j hl b h (c.symm.trans k.symm)
    ·have gH:∀l,l<(aV q F i).length->(aK ((aV q F i).set j {key:=(aK (aV q F i) j).key,W:=(aK (aV q F i) j).W,m:=(aK (aV q F i) j).m+1,L:=gV (aK (aV q F i) j).L (aK (aV q F i) j).m (kR q (F i)),G:=gV (aK (aV q F i) j).G (aK (aV q F i) j).m (lJ q (F i)),C:=uj (aK (aV q F i) j).C (aK (aV q F i) j).m (Br q (F i)),T:=gV (aK (aV q F i) j).T (aK (aV q F i) j).m (i:Int)}) l).key=(aK (aV q F i) l).key:=λl hl=>by
      rw[gg b]
      by_cases h:l=j
      ·rw[if_pos h,h]
      ·rw[if_neg h]
     by_cases e:f=i
     ·exact⟨j,by rw[List.length_set];exact b,by rw[gH j b,e];exact k⟩
     ·obtain⟨l,l1,l2⟩:=o f O g
      exact⟨l,by rw[List.length_set];exact l1,by rw[gH l l1];exact l2⟩
   ·rename_i d
    have no:=xc d
    refine⟨λl hl=>?_,λf p g=>?_⟩
    ·rw[gh,Hp]
     by_cases h:l=(aV q F i).length
     ·rw[if_pos h]
      show(List.range 1).map (λ_=>(i:Int).toNat)=(List.range i).filter (λf=>gk q (F f)&&decide (FA q (F f)=FA q (F i)))++if(gk q (F i)&&decide (FA q (F i)=FA q (F i)))=true then [i]else []
      rw[if_pos (by rw[hm];simp),List.filter_eq_nil_iff.2 λf d c=>?_]
      ·rfl
      ·rw[bf,bn]at c
       obtain⟨l,l1,l2⟩:=o f (List.mem_range.1 d) c.1
       exact no l l1 (l2.trans c.2)
     ·have hl:l<(aV q F i).length:=by simp at hl;omega
      rw[if_neg h,n l hl,if_neg (λc=>?_),List.append_nil]
      rw[hm,Bool.true_and,bn]at c
      exact no l hl c.symm
    ·by_cases e:f=i
     ·refine⟨(aV q F i).length,zA,?_⟩
      rw[gh,if_pos A,e]
     ·obtain⟨l,l1,l2⟩:=o f O g
      refine⟨l,by simp;omega,?_⟩
      rw[gh,if_neg O];exact l2
def Ur(q:Query)(W:Nat->Int)(x:ay):Bool:=A9 q.ng (bc q x) W
theorem Wc{q:Query}{F:Nat->ay}{i j:Nat}(d:q.ng<=3)(b:j<(aV q F i).length)(x:ay):decide (FA q x=(aK (aV q F i) j).key)=Ur q (aK (aV q F i) j).W x:=by
 rw[(tj q F i).key j b]
 generalize (aK (aV q F i) j).W=W
 have one:∀a,((bif Nat.blt a q.ng then bc q x a else 0)=bif Nat.blt a q.ng then W a else 0)↔(a<q.ng->bc q x a=W a):=λa=>by
  by_cases h:a<q.ng
  ·rw[eV h,cond_true,cond_true];exact⟨λe _=>e,λe=>e h⟩
  ·rw[js h];exact⟨λ_ c=>absurd c h,λ_=>rfl⟩
 refine Bool.eq_iff_iff.2 ?_
 unfold Ur A9 FA
 rw[bn,List.all_eq_true]
 simp only[List.cons.injEq,and_true,one,List.mem_range,bn]
 refine⟨λ⟨a0,a1,a2⟩ a ha=>?_,λh=>⟨h 0,h 1,h 2⟩⟩
 have:a=0∨a=1∨a=2:=O
 rcases this with rfl|rfl|rfl
 ·exact a0 ha
 ·exact a1 ha
 ·exact a2 ha
def VO(q:Query)(x:ay)(d:Int):Int:=if q.a=1 then 1 else if q.fl=7 then x.b else d
def Zz(q:Query)(F:Nat->ay)(k:Nat)(W D:Nat->Int):List Int:=((List.range k).filter λf=>Ur q W (F f)&&qS q (F f) (D f)).map λf=>VO q (F f) (D f)
def OJ(q:Query)(l:List Int):List UInt8×List UInt8:=pS q l.length λj=>l.getD j 0
theorem VP{q:Query}{x:ay}(b:eU q=true)(c:gk q x=true)(d:Int):(if q.fl=8 then d else kR q x)=VO q x d:=by
 have ha:(q.a=1/\q.fl=0)∨(q.a≠1/\(q.fl=7∨q.fl=8)):=by
  unfold eU EV at b
  simp only[bf,Bool.or_eq_true,bn]at b
  omega
 unfold kR VO
 rw[c]
 rcases ha with⟨a1,a2⟩|⟨a1,a2⟩
 ·simp only[if_neg (O:¬ q.fl=8),if_pos a1]
 ·rw[if_neg a1]
  rcases a2 with a2|a2
  ·simp only[if_neg (O:¬ q.fl=8),if_neg a1,if_pos a2]
  ·rw[if_pos a2,if_neg a1,if_neg (O:¬ q.fl=7)]
theorem VQ{q:Query}{k:Nat}{F:Nat->ay}{j:Nat}(d:ct q=true)(c:j<(aV q F k).length)(D:Nat->Int):
  pS q (yd q F D (aK (aV q F k) j)) (uq q F D (aK (aV q F k) j))=OJ q (Zz q F k (aK (aV q F k) j).W D):=by
 have e:=(mY d).2.2
 have g:=yD q F k j c
 have fl:=(Il q F k).list j c
 have h:=λx=>Wc (x:=x) (Xs d) c
 refine LH (List.Perm.of_eq ?_)
 unfold yd uq
 rw[nf,wD]
 simp only[h]at fl
 generalize aK (aV q F k) j=b at*
 have i:(List.range k).filter (λf=>Ur q b.W (F f)&&qS q (F f) (D f))=((List.range b.m).map λa=>(b.T a).toNat).filter λf=>qS q (F f) (D f):=by
  rw[fl,List.filter_filter]
  refine List.filter_congr λf p=>?_
  cases l:qS q (F f) (D f)with
  |false=>simp
  |true=>rw[(Dj e).2 ⟨_,l⟩];simp
 unfold Zz
 rw[i,List.filter_map,List.map_map]
 refine List.map_congr_left λa ha=>?_
 obtain⟨a1,a2⟩:=List.mem_filter.1 ha
 obtain⟨f,f1,r,n,o,_,_⟩:=g a (List.mem_range.1 a1)
 show(if q.fl=8 then D (b.T a).toNat else b.L a)=VO q (F (b.T a).toNat) (D (b.T a).toNat)
 rw[show(b.T a).toNat=f by omega,o]
 exact VP e n (D f)
structure tc (c:Query) (b:Nat->ay) (k:Nat) (W:Nat->Int) (lo hi:List UInt8×List UInt8):Prop where
 ge:∀a,r9 k b a->lY (tv lo) (tv (OJ c (Zz c b k W a)))
 le:∀a,r9 k b a->lY (tv (OJ c (Zz c b k W a))) (tv hi)
 VS:∃a,r9 k b a/\OJ c (Zz c b k W a)=lo
 VT:∃a,r9 k b a/\OJ c (Zz c b k W a)=hi
theorem TP{q:Query}{k:Nat}{F:Nat->ay}{j:Nat}(h:ct q=true)(i:cX k F=true)(a:j<(aV q F k).length):
  tc q F k (aK (aV q F k) j).W (eO q (aK (aV q F k) j).m (aK (aV q F k) j).L (aK (aV q F k) j).C) (dQ q (aK (aV q F k) j).m (aK (aV q F k) j).G (aK (aV q F k) j).C):=by
 have b:=jR i
 have c:=(mY h).2.2
 have d:=yD q F k j a
 have tv:=λD=>VQ (D:=D) h a
 obtain⟨⟨e,d1,l⟩,f,n,o⟩:=WB c b d (Ss q F k j a)
 exact {
  ge:=λD g=>tv D▸(Rp c b g d).1
  le:=λD g=>tv D▸(Rp c b g d).2
  VS:=⟨e,d1,tv e▸l e λ_ _=>rfl⟩
  VT:=⟨f,n,tv f▸o f λ_ _=>rfl⟩}
theorem YS{q:Query}{W V:Nat->Int}(h:A9 q.ng W V=true)(x:ay):Ur q W x=Ur q V x:=by
 have e:∀a,a<q.ng->W a=V a:=λa ha=>pT (List.all_eq_true.1 h a (List.mem_range.2 ha))
 unfold Ur A9
 refine Bool.eq_iff_iff.2 ?_
 rw[List.all_eq_true,List.all_eq_true]
 exact⟨λk a ha=>by rw[<-e a (List.mem_range.1 ha)];exact k a ha,λk a ha=>by rw[e a (List.mem_range.1 ha)];exact k a ha⟩
theorem Wd{q:Query}{W V:Nat->Int}(h:A9 q.ng W V=true)(F:Nat->ay)(k:Nat)(D:Nat->Int):Zz q F k W D=Zz q F k V D:=by
 unfold Zz
 simp only[YS h]
theorem tc.key{q:Query}{F:Nat->ay}{k:Nat}{W V:Nat->Int}{lo hi:List UInt8×List UInt8}(r:tc q F k W lo hi)(h:A9 q.ng W V=true):tc q F k V lo hi:=by
 obtain⟨a,b,c,d⟩:=r
 simp only[Wd h]at a b c d
 exact⟨a,b,c,d⟩
theorem We{q:Query}{F:Nat->ay}{k:Nat}{W:Nat->Int}(b:eU q=true)(g:∀j,j<k->bB (F j)=true)(h:∀f,f<k->gk q (F f)=true->Ur q W (F f)=false):tc q F k W ([48],[49]) ([48],[49]):=by
 have e:∀D,OJ q (Zz q F k W D)=([48],[49]):=λD=>by
  have:Zz q F k W D=[]:=by
   unfold Zz
   rw[List.filter_eq_nil_iff.2 λf a c=>?_]
   ·rfl
   ·rw[bf]at c
    have:=h f (List.mem_range.1 a) ((Dj b).2 ⟨_,c.2⟩)
    rw[c.1]at this;cases this
  rw[this]
  unfold OJ pS c8 da jO
  rw[if_pos List.length_nil]
  show(bu (0/Nat.gcd 0 1),bu (1/Nat.gcd 0 1))=_
  rw[Nat.gcd_zero_left,show bu (0/1)=[48] by unfold bu;rw[Lib.decDigits_one O];rfl,show 1/1=1 from rfl,GR]
 have d:r9 k F λf=>(F f).l:=λf a=>⟨Int.le_refl _,((jx (g f a)).1).2.1⟩
 exact⟨λD _=>by rw[e];exact lY.refl _,λD _=>by rw[e];exact lY.refl _,⟨_,d,e _⟩,⟨_,d,e _⟩⟩
def qP(n g:Nat)(K:Nat->Nat->Int)(W:Nat->Int):Option Nat:=(List.range n).find? λj=>A9 g (K j) W
def eD(n g:Nat)(K:Nat->Nat->Int)(S:Nat->Nat->List UInt8)(W:Nat->Int)(c:Nat):List UInt8:=match qP n g K W with
 |some j=>S j c
 |none=>match c with
  |0=>[48]
  |1=>[49]
  |2=>[48]
  |_=>[49]
theorem Rz{q:Query}{k:Nat}{F:Nat->ay}(c:ct q=true)(d:q.top=0)(n:cX k F=true)(W:Nat->Int):
  tc q F k W (eD (r8 q k F) q.ng (FM q k F) (oU q k F) W 0,eD (r8 q k F) q.ng (FM q k F) (oU q k F) W 1) (eD (r8 q k F) q.ng (FM q k F) (oU q k F) W 2,eD (r8 q k F) q.ng (FM q k F) (oU q k F) W 3):=by
 have u:=jR n
 have v:=(mY c).2.2
 have o:r8 q k F=(aV q F k).length:=by unfold r8 ju;rw[if_pos d]
 have r:∀j,FM q k F j=dK (og q (aV q F k)) j:=λj=>by unfold FM cS;rw[if_pos d]
 have w:∀j,oU q k F j=jC q (og q (aV q F k)) j:=λj=>by unfold oU cS;rw[if_pos d]
 unfold eD
 cases b:qP (r8 q k F) q.ng (FM q k F) W with
 |some j=>
  unfold qP at b
  have s:=List.mem_range.1 (List.mem_of_find?_eq_some b)
  have t:A9 q.ng (FM q k F j) W=true:=List.find?_some (p:=λj=>A9 q.ng (FM q k F j) W) b
  rw[o]at s
  rw[r]at t
  show tc q F k W (oU q k F j 0,oU q k F j 1) (oU q k F j 2,oU q k F j 3)
  rw[w]
  exact(TP c n (u4 q.ng (aV q F k).length (fj q.ng (aV q F k)) s)).key t
 |none=>
  refine We v u λf e x=>?_
  obtain⟨l,l1,l2⟩:=(Il q F k).all f e x
  have y:(lW q.ng (aV q F k).length (fj q.ng (aV q F k))).Perm (List.range (aV q F k).length):=List.mergeSort_perm _ _
  obtain⟨i,g,C⟩:=List.mem_iff_getElem.1 (y.mem_iff.2 (List.mem_range.2 l1))
  have D:i<r8 q k F:=by rw[o];rw[Dd]at g;exact g
  unfold qP at b
  have h:=List.find?_eq_none.1 b i (List.mem_range.2 D)
  have E:og q (aV q F k) i=aK (aV q F k) l:=by
   unfold og
   rw[List.getD_eq_getElem?_getD,mo g,C];rfl
  have m:Ur q (aK (aV q F k) l).W (F f)=true:=by
   rw[<-Wc (Xs c) l1]
   exact bW l2.symm
  cases hw:Ur q W (F f)with
  |false=>rfl
  |true=>
   refine absurd ?_ h
   rw[r]
   show A9 q.ng (og q (aV q F k) i).W W=true
   rw[E]
   refine List.all_eq_true.2 λa ha=>bW ?_
   have G:=pT (List.all_eq_true.1 m a ha)
   have H:=pT (List.all_eq_true.1 hw a ha)
   exact G.symm.trans H
end Go.Sx
end
section
set_option maxRecDepth 1000000
namespace Go.Sx
open Go
def VJ:List AV:=[.aw,.str [],.str [],.str [],.str [],.str [],.str [],.str [],.str []]
noncomputable def YX(n g:Nat)(K:Nat->Nat->Int)(S:Nat->Nat->List UInt8)(W:Nat->Int)(i:Int):St:={t:=Tr.ofList [(0,.az n 9 (aX g K S)),(1,.az g 1 (ae W)),(4,.ptr 12 0 0 0),(5,.int .i64 i)],nt:=29,H:={n:=13,t:=Tr.ofList [(12,.cells VJ (.ty 44))]},df:=[]}
noncomputable def YY(g:Nat)(K:Nat->Nat->Int)(S:Nat->Nat->List UInt8)(W:Nat->Int)(b:Bool)(j:Nat):GE:=.cond b (.one (.r {t:=Tr.ofList [(4,.ptr 12 0 0 0)],nt:=29,H:={n:=13,t:=Tr.ofList [(12,.cells (aX g K S j) (.ty 44))]},df:=[]})) (.one (.x 0 {t:=Tr.ofList [(1,.az g 1 (ae W)),(4,.ptr 12 0 0 0)],nt:=29,H:={n:=13,t:=Tr.ofList [(12,.cells VJ (.ty 44))]},df:=[]}))
theorem WS(n g:Nat)(K:Nat->Nat->Int)(S:Nat->Nat->List UInt8)(W:Nat->Int)(b:Bool)(j:Nat)(i:Int)(Q:Prop):(kr [FR] [] 24 2004 13 (YX n g K S W) (λ_=>YY g K S W b j) (λi=>i+1) Q i)=(ah (decide (i<Int.ofNat n)) (aa (decide (0<=i)&&decide (i<Int.ofNat n)) (aa (bA g (ae (K i.toNat))&&bA g (ae W)&&Nat.ble g 1000000&&Nat.beq g g) (ah (A9 g (aM (ae (K i.toNat))) (aM (ae W))) (aa (decide (0<=i)&&decide (i<Int.ofNat n)) (ah b (zyN g (an g (ae (K i.toNat)) (ae (K j))/\bI (S i.toNat 0) (S j 0) (bI (S i.toNat 1) (S j 1) (bI (S i.toNat 2) (S j 2) (bI (S i.toNat 3) (S j 3) (zyB [48] (zyB [49] (zyB [48] (zyB [49] True))))))))) False)) (aa (aN .i64 (i+1)) (zyB [] (zyB [] (zyB [] (zyB [] (zyB [] (zyB [] (zyB [] (zyB [] (zyN g (zyR g (ae W) (zyI (i+1) (zyN n (zyR n (aX g K S) Q))))))))))))))))) (ah b False (zyB [] (zyB [] (zyB [] (zyB [] (zyB [] (zyB [] (zyB [] (zyB [] (zyN g (zyR g (ae W) True)))))))))))):=U
theorem W0(n g:Nat)(K:Nat->Nat->Int)(S:Nat->Nat->List UInt8)(W:Nat->Int)(b:Bool)(j:Nat)(Q:AV->Prop):(kb [FR,W4] [(2004,13,YX n g K S W 0,YY g K S W b j)] 24 [.az n 9 (aX g K S),.az g 1 (ae W)] Q)=(Zu PP II false (aD II 24 2004) 13 (YX n g K S W 0) (YY g K S W b j)/\zyB [] (zyB [] (zyB [] (zyB [] (zyB [] (zyB [] (zyB [] (zyB [] (zyN g (zyR g (ae W) (zyN n (zyR n (aX g K S) (ah b (Q (AV.agg [AV.az g 1 (ae (K j)),AV.str (S j 0),AV.str (S j 1),AV.str (S j 2),AV.str (S j 3),AV.str [48],AV.str [49],AV.str [48],AV.str [49]])) (Q (AV.agg [AV.az g 1 (ae W),AV.str [48],AV.str [49],AV.str [48],AV.str [49],AV.str [48],AV.str [49],AV.str [48],AV.str [49]]))))))))))))))):=U
end Go.Sx
end
section
set_option maxRecDepth 1000000
namespace Go.Sx
open Go
theorem Xj(n g:Nat)(m:n<=1000000)(k:g<=1000000)(K:Nat->Nat->Int)(S:Nat->Nat->List UInt8)(W:Nat->Int):
  Zu PP II false (aD II 24 2004) 13 (YX n g K S W 0) (YY g K S W (qP n g K W).isSome ((qP n g K W).getD 0)):=by
 have key:=Zu.of (ι:=Nat) iw [FR] (bm PP II []) 1000 (c:=aD II 24 2004) (ir:=false) 13 (λi=>i<=n/\∀l,l<i->A9 g (K l) W=false) (λi=>YX n g K S W (i:Int)) (λ_=>YY g K S W (qP n g K W).isSome ((qP n g K W).getD 0)) (λi=>n-i) (λi=>i+1) 0 A ⟨Nat.zero_le _,λl hl=>absurd hl (lZ _)⟩ λi hi=>?_
 ·exact key
 obtain⟨hi,d⟩:=hi
 have o:Int.ofNat n=(n:Int):=rfl
 have go:∀Q:Prop,(i<n->A9 g (K i) W=false->Q)->kr [FR] [] 24 2004 13 (YX n g K S W) (λ_=>YY g K S W (qP n g K W).isSome ((qP n g K W).getD 0)) (λi=>i+1) Q (i:Int):=λQ hQ=>by
  rw[WS,show Int.toNat (i:Int)=i from rfl]
  refine Zg (λh=>?_) λh=>?_
  ·have b:i<n:=by omega
   have j:(decide ((0:Int)<=i)&&decide ((i:Int)<Int.ofNat n))=true:=by simp only[bf,bn];omega
   refine cC _ _ j (cC _ _ (by rw[kc,kc,kV k,ni];rfl) ?_)
   cases a:A9 g (K i) W with
   |true=>
    have f:qP n g K W=some i:=by
     unfold qP
     rw[List.find?_range_eq_some]
     exact⟨a,List.mem_range.2 b,λl hl=>by rw[d l hl];rfl⟩
    rw[show A9 g (aM (ae (K i))) (aM (ae W))=true from a,f]
    exact cC _ _ j (YG A ⟨bL _ _,Zi A (Zi A (Zi A (Zi A (Zi A (Zi A (Zi A (Zi A trivial)))))))⟩)
   |false=>
    rw[show A9 g (aM (ae (K i))) (aM (ae W))=false from a]
    exact cC _ _ (aq O O) (Zi A (Zi A (Zi A (Zi A (Zi A (Zi A (Zi A (Zi A (YG A ⟨bL _ _,Zf A (YG A ⟨eP _ _ _ _,hQ b a⟩)⟩)))))))))
  ·have f:qP n g K W=none:=by
    unfold qP
    rw[List.find?_eq_none]
    intro l hl c
    rw[d l (by have:=List.mem_range.1 hl;omega)]at c
    cases c
   rw[f]
   exact Zi A (Zi A (Zi A (Zi A (Zi A (Zi A (Zi A (Zi A (YG A ⟨bL _ _,trivial⟩))))))))
 exact go _ λh a=>⟨⟨h,λl hl=>by by_cases e:l=i;exact e▸a;exact d l O⟩,O,rfl⟩
def U5(n g:Nat)(K:Nat->Nat->Int)(S:Nat->Nat->List UInt8)(W:Nat->Int):AV:=.agg [.az g 1 (ae W),.str (eD n g K S W 0),.str (eD n g K S W 1),.str (eD n g K S W 2),.str (eD n g K S W 3),.str [48],.str [49],.str [48],.str [49]]
theorem Xk{n g:Nat}(c:n<=1000000)(d:g<=1000000)(K:Nat->Nat->Int)(S:Nat->Nat->List UInt8)(W:Nat->Int):
  af PP II 24 [.az n 9 (aX g K S),.az g 1 (ae W)] (AH.blank 12) (.ret (U5 n g K S W) (AH.blank 12)):=by
 refine Al (ks:=[FR,W4]) (T:=[(2004,13,YX n g K S W 0,YY g K S W (qP n g K W).isSome ((qP n g K W).getD 0))]) ?_
 rw[W0]
 refine⟨Xj n g c d K S W,Zi A (Zi A (Zi A (Zi A (Zi A (Zi A (Zi A (Zi A (YG A ⟨bL _ _,YG A ⟨eP _ _ _ _,?_⟩⟩))))))))⟩
 unfold U5 eD
 cases b:qP n g K W with
 |some j=>
  unfold qP at b
  have e:A9 g (K j) W=true:=List.find?_some (p:=λj=>A9 g (K j) W) b
  refineλσ=>⟨⟨rfl,rfl,λa ha=>?_⟩,rfl,rfl,rfl,rfl,rfl,rfl,rfl,rfl,trivial⟩
  have:=pT (List.all_eq_true.1 e a (List.mem_range.2 ha))
  exact⟨⟨rfl,this⟩,trivial⟩
 |none=>exactλσ=>⟨⟨rfl,rfl,λa _=>Zy _ _ _⟩,rfl,rfl,rfl,rfl,rfl,rfl,rfl,rfl,trivial⟩
noncomputable def Sw:aC PP II:=aC.pure 24
 (λX args a=>match args with
  |[.az n 9 f,.az g 1 h]=>X.ak (wT g n f&&bA g h&&Nat.ble n 1000000&&Nat.ble g 1000000) (a (U5 n g (CZ f) (nV f) (aM h)))
  |_=>X.fail)
 λX sem hX args a h=>by
  split at h
  ·rename_i n f g e
   obtain⟨b,c⟩:=hX.ak _ _ h
   simp only[bf]at b
   obtain⟨⟨⟨a1,a2⟩,d⟩,a4⟩:=b
   exact⟨_,c,λ_=>rfl,λ_=>rfl,af.dA (Xk (jX d) (jX a4) _ _ _) (C0 a1) (cy a2)⟩
  ·exact zR
end Go.Sx
end
section
set_option maxRecDepth 1000000
namespace Go.Sx
open Go
noncomputable def Tg:aC PP II:=aC.pure 108
 (λX args d=>match args with
  |[.aw,.az m 1 g]=>X.ak (jn m g) (d (jm (numOf m g)))
  |[.az k 1 f,.az m 1 g]=>X.ak (jn k f&&jn m g) (d (jm (numOf k f+numOf m g)))
  |_=>X.fail)
 λX sem hX args d h=>by
  split at h
  ·rename_i m g
   obtain⟨c,e⟩:=hX.ak _ _ h
   obtain⟨a1,a2⟩:=oD c
   have:=P1 (a:=0) (b:=numOf m g) (k:=0) (by rw[eY];omega) (dw _) (Nat.zero_le _) O
   rw[Nat.zero_add]at this
   exact⟨_,e,λ_=>rfl,λ_=>rfl,this.dq ⟨rfl,a1,trivial⟩⟩
  ·obtain⟨c,e⟩:=hX.ak _ _ h
   simp only[bf]at c
   obtain⟨a1,a2⟩:=oD c.1
   obtain⟨i,j⟩:=oD c.2
   exact⟨_,e,λ_=>rfl,λ_=>rfl,(P1 (dw _) (dw _) O O).dq ⟨a1,i,trivial⟩⟩
  ·exact zR
noncomputable def Zp:aC PP II:=aC.pure 157
 (λX args b=>match args with
  |[.az k 1 f,.int .i64 1]=>X.ak (jn k f) (b (jm (numOf k f)))
  |_=>X.fail)
 λX sem hX args b h=>by
  split at h
  ·rename_i k f
   obtain⟨c,d⟩:=hX.ak _ _ h
   obtain⟨a1,a2⟩:=oD c
   have:=Wn (a:=numOf k f) (n:=1) O (dw _) O
   rw[Nat.mul_one]at this
   exact⟨_,d,λ_=>rfl,λ_=>rfl,this.dq ⟨a1,⟨rfl,rfl⟩,trivial⟩⟩
  ·exact zR
theorem OK:isNat [49]=true:=by rw[<-GR];exact dc (jL O)
theorem LI:Zt [49]=1:=by rw[<-GR,cq]
noncomputable def Wf:aC PP II:=aC.pure 106
 (λX args b=>match args with
  |[.str a,.str [49]]=>X.ak (isNat a) (b (.bK [GQ false (Zt a),.agg [.bool false,.az 1 1 λ_=>[.int .i64 1]],.bool true]))
  |_=>X.fail)
 λX sem hX args b h=>by
  split at h
  ·rename_i a
   obtain⟨c,d⟩:=hX.ak _ _ h
   obtain⟨a1,a2,e⟩:=rF c
   obtain⟨f,g,j⟩:=rF OK
   have:=L7 a2 g (by rw[a1,f];rfl)
   rw[e,j]at this
   refine⟨_,d,λ_=>rfl,λ_=>rfl,this.le (ky.of [] (im.of A A A A A (gS.2 λl _=>trivial)) ⟨⟨rfl,mP _ _,trivial⟩,⟨rfl,⟨?_,rfl,λi hi=>?_⟩,trivial⟩,rfl,trivial⟩)⟩
   ·rw[LI,rv O,show 1/10000=0 from rfl,eY]
   ·rw[LI,rv O,show 1/10000=0 from rfl,eY]at hi
    rw[LI,show i=0 by omega]
    exact⟨⟨rfl,rfl⟩,trivial⟩
  ·exact zR
theorem Xl(a:List UInt8)(Q:AV->Prop):(kp [Wf,Zp,Tg,L9] [] 115 [.str a,.str [49]] Q)=(let b:=(numOf (ar (numOf (ar (Zt a)) (aG (Zt a)))) (aG (numOf (ar (Zt a)) (aG (Zt a)))));(aa (isNat a) (aa (aN .i64 0) (aa (jn (ar (Zt a)) (aG (Zt a))) (aa (jn (ar (numOf (ar (Zt a)) (aG (Zt a)))) (aG (numOf (ar (Zt a)) (aG (Zt a))))) (aa (aN .i64 (-1:Int)) (aa (jn (ar b) (aG b)&&gI (numOf (ar b) (aG b))) (Q (AV.bK [AV.str (xO false (numOf (ar b) (aG b))),AV.int .i64 0]))))))))):=U
theorem Xm(a b:List UInt8)(Q:AV->Prop):(kp [Au,Tg,L9] [] 55 [.str a,.str b] Q)=(aa (isNat a&&isNat b) (aa (jn (ar (Zt a)) (aG (Zt a))&&jn (ar (Zt b)) (aG (Zt b))) (aa (jn (ar (numOf (ar (Zt a)) (aG (Zt a))+numOf (ar (Zt b)) (aG (Zt b)))) (aG (numOf (ar (Zt a)) (aG (Zt a))+numOf (ar (Zt b)) (aG (Zt b))))&&gI (numOf (ar (numOf (ar (Zt a)) (aG (Zt a))+numOf (ar (Zt b)) (aG (Zt b)))) (aG (numOf (ar (Zt a)) (aG (Zt a))+numOf (ar (Zt b)) (aG (Zt b)))))) (Q (AV.bK [AV.str (xO false (numOf (ar (numOf (ar (Zt a)) (aG (Zt a))+numOf (ar (Zt b)) (aG (Zt b)))) (aG (numOf (ar (Zt a)) (aG (Zt a))+numOf (ar (Zt b)) (aG (Zt b)))))),AV.int .i64 0]))))):=U
end Go.Sx
end
section
set_option maxRecDepth 1000000
namespace Go.Sx
open Go
theorem Xn{a:List UInt8}(h:isNat a=true)(ht:gI (Zt a)=true):af PP II 115 [.str a,.str [49]] HP (.ret (.bK [.str (bu (Zt a)),.int .i64 0]) HP):=by
 refine kz (ks:=[Wf,Zp,Tg,L9]) (T:=[]) ?_
 rw[Xl]
 simp only[bZ,jo ht,h,ht,qH,Bool.and_self]
 exactλσ=>⟨rfl,⟨rfl,rfl⟩,trivial⟩
theorem Xo{a b:List UInt8}(ha:isNat a=true)(d:isNat b=true)(ht:gI (Zt a)=true)(e:gI (Zt b)=true)(c:gI (Zt a+Zt b)=true):af PP II 55 [.str a,.str b] HP (.ret (.bK [.str (bu (Zt a+Zt b)),.int .i64 0]) HP):=by
 refine kz (ks:=[Au,Tg,L9]) (T:=[]) ?_
 rw[Xm]
 simp only[bZ,jo ht,jo e,jo c,ha,d,c,qH,Bool.and_self]
 exactλσ=>⟨rfl,⟨rfl,rfl⟩,trivial⟩
noncomputable def XV:aC PP II:=aC.l8 115
 (λX args c=>match args with
  |[.str a,.str [49]]=>X.ak (isNat a&&gI (Zt a)) (c (.bK [.str (bu (Zt a)),.int .i64 0]))
  |_=>X.fail)
 λX sem hX args c h=>by
  split at h
  ·rename_i a
   obtain⟨b,d⟩:=hX.ak _ _ h
   rw[bf]at b
   exact⟨_,d,λ_=>rfl,λ_=>rfl,Xn b.1 b.2⟩
  ·exact zR
noncomputable def XW:aC PP II:=aC.l8 55
 (λX args c=>match args with
  |[.str a,.str b]=>X.ak (isNat a&&isNat b&&gI (Zt a)&&gI (Zt b)&&gI (Zt a+Zt b)) (c (.bK [.str (bu (Zt a+Zt b)),.int .i64 0]))
  |_=>X.fail)
 λX sem hX args c h=>by
  split at h
  ·rename_i a b
   obtain⟨d,e⟩:=hX.ak _ _ h
   simp only[bf]at d
   obtain⟨⟨⟨⟨a1,a2⟩,f⟩,a4⟩,g⟩:=d
   exact⟨_,e,λ_=>rfl,λ_=>rfl,Xo a1 a2 f a4 g⟩
  ·exact zR
theorem Xp(a b:List UInt8)(Q:AV->Prop):(kp [yM,XV,XW,Mf,TY,Me] [] 25 [.agg [.str a,.str [49]],.agg [.str b,.str [49]]] Q)=(let c:=(Zt [49]);let e:=(Zt (bu (Zt a))+Zt (bu (Zt b)));let d:=(bu (Nat.gcd (Zt (bu e)) (Zt (bu c))));(aa (bJ a [49]) (aa (aN .i64 1) (aa (bJ b [49]) (aa (aN .i64 2) (aa (isNat a&&gI (Zt a)) (aa (decide (b=b)) (aa (isNat b&&gI (Zt b)) (aa (isNat (bu (Zt a))&&isNat (bu (Zt b))&&gI (Zt (bu (Zt a)))&&gI (Zt (bu (Zt b)))&&gI e) (aa (isNat [49]&&gI c) (ah (List.beq (bu c) [48]) (Q (AV.bK [AV.agg [AV.str [],AV.str []],AV.int .i64 40])) (aa (isNat (bu c)&&Nat.blt 0 (Zt (bu c))) (aa (isNat (bu e)&&isNat (bu c)) (aa (isNat (bu e)&&isNat d&&Nat.blt 0 (Zt d)) (aa (isNat (bu c)&&isNat d&&Nat.blt 0 (Zt d)) (Q (AV.bK [AV.agg [AV.str (bu (Zt (bu e)/Zt d)),AV.str (bu (Zt (bu c)/Zt d))],AV.int .i64 0]))))))))))))))))):=U
theorem Sy{a:List UInt8}(h:isNat a=true):bJ a [49]=true:=by
 unfold bJ
 rw[h,OK,LI,Nat.gcd_one_right];rfl
theorem Xw{a b:List UInt8}(ha:isNat a=true)(f:isNat b=true)(q:Zt a<=2305843009213693952)(r:Zt b<=2305843009213693952):af PP II 25 [.agg [.str a,.str [49]],.agg [.str b,.str [49]]] HP (.ret (.bK [.agg [.str (bu (Zt a+Zt b)),.str [49]],.int .i64 0]) HP):=by
 have ra:=Sy ha
 have rb:=Sy f
 have g:=jL (n:=Zt a) O
 have i:=jL (n:=Zt b) O
 have j:=jL (n:=Zt a+Zt b) O
 have t1:=jL (n:=1) O
 refine kz (ks:=[yM,XV,XW,Mf,TY,Me]) (T:=[]) ?_
 rw[Xp]
 generalize l:isNat (_::_)=c
 have d:c=true:=l.symm.trans OK
 generalize m:Zt (_::_)=o
 have e:o=1:=m.symm.trans LI
 clear l m
 subst d e
 have p:List.beq (bu 1) [48]=false:=by rw[Ax (k:=0) ly];rfl
 simp only[cq,Nat.gcd_one_right,Nat.div_one,ha,f,g,i,j,t1,dc g,dc i,dc j,dc t1,Bool.and_self,Nat.div_self Nat.one_pos]
 refine cC _ _ ra (cC _ _ A (cC _ _ rb (cC _ _ A (cC _ _ A (cC _ _ A (cC _ _ A (cC _ _ A (cC _ _ A (Zh (λh=>?_) λ_=>cC _ _ A (cC _ _ A (cC _ _ A (cC _ _ A λσ=>⟨⟨rfl,GR,trivial⟩,⟨rfl,rfl⟩,trivial⟩))))))))))))
 have h:List.beq (bu 1) [48]=true:=h
 rw[p]at h;cases h
noncomputable def Wg:aC PP II:=aC.l8 25
 (λX args e=>match args with
  |[.agg [.str a,.str c],.agg [.str b,.str d]]=>X.ak (isNat a&&isNat b&&decide (c=[49])&&decide (d=[49])&&Nat.ble (Zt a) 2305843009213693952&&Nat.ble (Zt b) 2305843009213693952) (e (.bK [.agg [.str (bu (Zt a+Zt b)),.str [49]],.int .i64 0]))
  |_=>X.fail)
 λX sem hX args e h=>by
  split at h
  ·rename_i a c b d
   obtain⟨f,g⟩:=hX.ak _ _ h
   simp only[bf,bn]at f
   obtain⟨⟨⟨⟨⟨a1,a2⟩,rfl⟩,rfl⟩,i⟩,j⟩:=f
   exact⟨_,g,λ_=>rfl,λ_=>rfl,Xw a1 a2 (jX i) (jX j)⟩
  ·exact zR
end Go.Sx
end
