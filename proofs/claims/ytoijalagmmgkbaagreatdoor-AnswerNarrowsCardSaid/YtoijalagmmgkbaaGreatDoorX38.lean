/- The proof of a statement of the seat, part 38. -/
import Derived.Test.YtoijalagmmgkbaaGreatDoorX37
import Derived.Test.YtoijalagmmgkbaaGreatDoorX30
import Derived.Test.YtoijalagmmgkbaaGreatDoorX24
set_option linter.all false
set_option linter.defProp false
section
set_option maxRecDepth 100000
namespace Go.Sx
open Go Go.Sort Go.Shelf Go.Proofs
def lY(x y:Nat×Nat):Prop:=x.1*y.2<=y.1*x.2
theorem lY.trans{x y a:Nat×Nat}(b:0<y.2)(d:lY x y)(f:lY y a):lY x a:=by
 unfold lY at*
 refine Nat.le_of_mul_le_mul_right (c:=y.2) ?_ b
 have a1:=Nat.mul_le_mul_right a.2 d
 have a2:=Nat.mul_le_mul_right x.2 f
 rw[Nat.mul_right_comm x.1 a.2 y.2,Nat.mul_right_comm a.1 x.2 y.2]
 rw[Nat.mul_right_comm y.1 x.2 a.2]at a1
 exact Nat.le_trans a1 a2
theorem lY.refl(x:Nat×Nat):lY x x:=dw _
def tv(x:List UInt8×List UInt8):Nat×Nat:=(Zt x.1,Zt x.2)
theorem xw{a b c d:Nat}:bw a b c d<=0↔lY (a,b) (c,d):=by
 unfold bw dU lY
 show _↔a*d<=c*b
 split
 ·omega
 ·split<;>omega
theorem FW{a b c d:Nat}:0<=bw a b c d↔lY (c,d) (a,b):=by
 unfold bw dU lY
 show _↔c*b<=a*d
 split
 ·omega
 ·split<;>omega
def pS(q:Query)(k:Nat)(W:Nat->Int):List UInt8×List UInt8:=(c8 q k W,da q k W)
theorem Rn{q:Query}{k j:Nat}{e i:Nat->Int}(h:lY (jO q k e) (jO q j i)):lY (tv (pS q k e)) (tv (pS q j i)):=by
 have key:∀{a b c d:Nat},0<b->0<d->a*d<=c*b->a/Nat.gcd a b*(d/Nat.gcd c d)<=c/Nat.gcd c d*(b/Nat.gcd a b):=λ{a b c d} r s h=>by
  have g1:0<Nat.gcd a b:=Nat.gcd_pos_of_pos_right a r
  have g2:0<Nat.gcd c d:=Nat.gcd_pos_of_pos_right c s
  have l:=Nat.div_mul_cancel (Nat.gcd_dvd_left a b)
  have m:=Nat.div_mul_cancel (Nat.gcd_dvd_right a b)
  have t:=Nat.div_mul_cancel (Nat.gcd_dvd_left c d)
  have u:=Nat.div_mul_cancel (Nat.gcd_dvd_right c d)
  generalize Nat.gcd a b=g at*
  generalize Nat.gcd c d=f at*
  generalize a/g=a' at*
  generalize b/g=n at*
  generalize c/f=o at*
  generalize d/f=p at*
  subst l m t u
  refine Nat.le_of_mul_le_mul_right (c:=g*f) ?_ (Nat.mul_pos g1 g2)
  have l:a'*g*(p*f)=a'*p*(g*f):=by ac_rfl
  have m:o*f*(n*g)=o*n*(g*f):=by ac_rfl
  rw[l,m]at h
  exact h
 unfold lY tv pS c8 da
 simp only[cq]
 exact key (u9 q k e) (u9 q j i) h
theorem Bh(q:Query)(k:Nat)(W:Nat->Int):0<(tv (pS q k W)).2:=by
 show 0<Zt (bu _)
 rw[cq]
 exact Nat.div_pos (Nat.le_of_dvd (u9 q k W) (Nat.gcd_dvd_right _ _)) (Nat.gcd_pos_of_pos_right _ (u9 q k W))
theorem Oo{q:Query}{k:Nat}{a b:Nat->Int}(h:Dm ((List.range k).map a) ((List.range k).map b)):lY (tv (pS q k a)) (tv (pS q k b)):=by
 refine Rn ?_
 unfold lY
 rw[Rm q k a b]
 exact Nat.mul_le_mul_right _ (On q k h)
theorem Bi{R:Nat->List UInt8×List UInt8}(a:∀j,0<(tv (R j)).2):∀i j,j<=i->lY (tv (aS (λc=>decide (c<0)) R i)) (tv (R j))
 |0,j,d=>by rw[show j=0 by omega];exact lY.refl _
 |i+1,j,d=>by
  have b:=Bi a i
  show lY (tv (match decide (bw _ _ _ _<0)with|true=>_|false=>_)) _
  by_cases h:bw (Zt (R (i+1)).1) (Zt (R (i+1)).2) (Zt (aS (λc=>decide (c<0)) R i).1) (Zt (aS (λc=>decide (c<0)) R i).2)<0
  ·rw[bW h]
   by_cases e:j=i+1
   ·subst e;exact lY.refl _
   ·obtain⟨l,hl,el⟩:=Zx (better:=λc=>decide (c<0)) (R:=R) i
    exact lY.trans (el▸a l) (xw.1 (Int.le_of_lt h)) (b j O)
  ·rw[nZ h]
   by_cases e:j=i+1
   ·subst e;exact FW.1 (Int.not_lt.1 h)
   ·exact b j O
theorem Bj{R:Nat->List UInt8×List UInt8}(a:∀j,0<(tv (R j)).2):∀i j,j<=i->lY (tv (R j)) (tv (aS (λc=>decide (c>0)) R i))
 |0,j,d=>by rw[show j=0 by omega];exact lY.refl _
 |i+1,j,d=>by
  have b:=Bj a i
  show lY _ (tv (match decide (bw _ _ _ _>0)with|true=>_|false=>_))
  by_cases h:bw (Zt (R (i+1)).1) (Zt (R (i+1)).2) (Zt (aS (λc=>decide (c>0)) R i).1) (Zt (aS (λc=>decide (c>0)) R i).2)>0
  ·rw[bW h]
   by_cases e:j=i+1
   ·subst e;exact lY.refl _
   ·obtain⟨l,hl,el⟩:=Zx (better:=λc=>decide (c>0)) (R:=R) i
    exact lY.trans (el▸a l) (b j O) (FW.1 (Int.le_of_lt h))
  ·rw[nZ h]
   by_cases e:j=i+1
   ·subst e;exact xw.1 (Int.not_lt.1 h)
   ·exact b j O
theorem zk(a:Nat)(V:Nat->Int)(l:List Int)(i:Nat)(hi:i<=l.length):(List.range (a+i)).map (jB a V λj=>l.getD j 0)=(List.range a).map V++l.take i:=by
 rw[List.range_add,List.map_append,List.map_map]
 congr 1
 ·refine List.map_congr_left λj b=>?_
  show(bif Nat.blt j a then V j else _)=V j
  rw[eV (List.mem_range.1 b)];rfl
 ·refine List.ext_getElem zJ λj c d=>?_
  rw[List.length_map,List.length_range]at c
  simp only[List.getElem_map,List.getElem_range,Function.comp,List.getElem_take]
  show(bif Nat.blt (a+j) a then V (a+j)else l.getD (a+j-a) 0)=l[j]
  rw[js O,show a+j-a=j by omega,List.getD_eq_getElem?_getD,mo O];rfl
theorem nf(p:Nat->Bool)(W:Nat->Int)(k:Nat):(List.range (aP p k)).map (bS p W k)=((List.range k).filter p).map W:=by
 have:=wD (((List.range k).filter p).map W)
 rw[List.length_map]at this
 exact this
theorem JZ(l:List Int)(i:Nat)(hi:i<=l.length):(List.range i).map (λj=>l.getD j 0)=l.take i:=by
 have:=zk 0 (λ_=>0) l i hi
 rw[Nat.zero_add]at this
 exact this
theorem Oq(q:Query)(k:Nat)(W:Nat->Int)(C:Nat->Bool)(l:List Int)(i:Nat)(hi:i<=l.length):∃a:Nat->Int,bN q (aP C k) (bS C W k) (λj=>l.getD j 0) i=pS q (aP C k+i) a/\(List.range (aP C k+i)).map a=((List.range k).filter C).map W++l.take i:=by
 cases i with
 |zero=>exact⟨bS C W k,rfl,by rw[Nat.add_zero,nf,List.take_zero,List.append_nil]⟩
 |succ i=>exact⟨jB (aP C k) (bS C W k) λj=>l.getD j 0,rfl,by rw[zk _ _ _ _ hi,nf]⟩
theorem Hq(q:Query)(l:List Int)(i:Nat)(hi:i<=l.length):∃a:Nat->Int,br q (λj=>l.getD j 0) i=pS q i a/\(List.range i).map a=l.take i:=by
 cases i with
 |zero=>exact⟨λ_=>0,rfl,rfl⟩
 |succ i=>exact⟨λj=>l.getD j 0,rfl,JZ l _ hi⟩
theorem vb(q:Query)(a:Nat)(V M:Nat->Int):∀j,0<(tv (bN q a V M j)).2
 |0=>Bh _ _ _
 |_+1=>Bh _ _ _
theorem se(q:Query)(M:Nat->Int):∀j,0<(tv (br q M j)).2
 |0=>Bh _ _ _
 |_+1=>Bh _ _ _
theorem Hr{C:Nat->Bool}{k:Nat}(h:(List.range k).any C=false):(List.range k).filter C=[]/\((List.range k).filter λj=>!C j)=List.range k:=by
 rw[List.any_eq_false]at h
 exact⟨List.filter_eq_nil_iff.2 h,List.filter_eq_self.2 λa ha=>by simp[h a ha]⟩
theorem UN(q:Query)(k:Nat)(L T:Nat->Int)(C p:Nat->Bool)(s:∀j,j<k->C j=true->p j=true)(hL:∀j,j<k->p j=true->L j<=T j):
  lY (tv (eO q k L C)) (tv (pS q (aP p k) (bS p T k))):=by
 have f:∀j,j∈List.range k->C j=true->p j=true:=λj n=>s j (List.mem_range.1 n)
 have l:∀(M:List Int)(c:Nat->Int),M.Pairwise (· <= ·)->M.Perm (((List.range k).filter λj=>!C j).map L)->(List.range (aP p k)).map c=((List.range k).filter C).map L++M.take ((List.range k).countP λj=>p j && !C j)->lY (tv (pS q (aP p k) c)) (tv (pS q (aP p k) (bS p T k))):=λM c t r hA=>by
  refine Oo ?_
  rw[hA,nf]
  obtain⟨d1,_⟩:=tz (L:=L) (T:=T) (M:=M) f (by rw[r.length_eq,List.length_map])
  refine⟨d1,λx=>Ol f (λj n h e=>?_) (t.imp λ{a b} h e=>?_) r⟩
  ·have:=hL j (List.mem_range.1 n) h
   simp only[bn]at e⊢;omega
  ·simp only[bn]at e⊢;omega
 unfold eO
 cases u:(List.range k).any C with
 |true=>
  have up:=gq (aP (λi=>!C i) k) (bS (λi=>!C i) L k)
  rw[nf]at up
  obtain⟨d1,g⟩:=tz (L:=L) (T:=T) (M:=dp (ltOf Lib.compareInt) (aP (λi=>!C i) k) (bS (λi=>!C i) L k)) f (by rw[up.2.length_eq,List.length_map])
  have hl:=up.2.length_eq
  rw[List.length_map]at hl
  rw[List.length_append,List.length_map,List.length_take,List.length_map,Nat.min_eq_left g]at d1
  obtain⟨c,a1,a2⟩:=Oq q k L C _ _ g
  have m:aP C k+((List.range k).countP λj=>p j && !C j)=aP p k:=d1
  rw[m]at a1 a2
  refine lY.trans ?_ (Bi (vb _ _ _ _) _ _ (hl▸g:_<=aP (λi=>!C i) k)) ?_
  ·exact vb _ _ _ _ _
  ·refine Eq.subst (motive:=λd=>lY (tv d) _) a1.symm (l _ c up.1 up.2 a2)
 |false=>
  have up:=gq k L
  obtain⟨n1,o⟩:=Hr u
  obtain⟨d1,g⟩:=tz (L:=L) (T:=T) (M:=dp (ltOf Lib.compareInt) k L) f (by rw[up.2.length_eq,o,List.length_map])
  have hl:=up.2.length_eq
  rw[List.length_map,List.length_range]at hl
  rw[n1,List.map_nil,List.nil_append,List.length_take,List.length_map,Nat.min_eq_left g]at d1
  obtain⟨c,a1,a2⟩:=Hq q _ _ g
  have m:((List.range k).countP λj=>p j && !C j)=aP p k:=d1
  refine lY.trans ?_ (Bi (se _ _) _ _ (hl▸g:_<=k)) ?_
  ·exact se _ _ _
  ·refine Eq.subst (motive:=λd=>lY (tv d) _) a1.symm ?_
   rw[<-o]at up
   rw[m]at a2⊢
   exact l _ c up.1 (by have:=up.2;rwa[o]at this⊢) (by rw[n1,m];exact a2)
end Go.Sx
end
section
set_option maxRecDepth 100000
namespace Go.Sx
open Go Go.Sort Go.Shelf Go.Proofs
theorem Ro(q:Query)(k:Nat)(G T:Nat->Int)(C p:Nat->Bool)(s:∀j,j<k->C j=true->p j=true)(hG:∀j,j<k->p j=true->T j<=G j):
  lY (tv (pS q (aP p k) (bS p T k))) (tv (dQ q k G C)):=by
 have f:∀j,j∈List.range k->C j=true->p j=true:=λj n=>s j (List.mem_range.1 n)
 have l:∀(M:List Int)(c:Nat->Int),M.Pairwise (λx y=>y<=x)->M.Perm (((List.range k).filter λj=>!C j).map G)->(List.range (aP p k)).map c=((List.range k).filter C).map G++M.take ((List.range k).countP λj=>p j && !C j)->lY (tv (pS q (aP p k) (bS p T k))) (tv (pS q (aP p k) c)):=λM c t o hA=>by
  refine Oo ?_
  rw[hA,nf]
  obtain⟨d1,_⟩:=tz (L:=G) (T:=T) (M:=M) f (by rw[o.length_eq,List.length_map])
  refine Dm.up d1.symm λx=>Ol f (λj n h e=>?_) (t.imp λ{a b} h e=>?_) o
  ·have:=hG j (List.mem_range.1 n) h
   simp only[bn]at e⊢;omega
  ·simp only[bn]at e⊢;omega
 unfold dQ
 cases u:(List.range k).any C with
 |true=>
  have up:=sd (aP (λi=>!C i) k) (bS (λi=>!C i) G k)
  rw[nf]at up
  obtain⟨d1,g⟩:=tz (L:=G) (T:=T) (M:=dp (ltOf pP) (aP (λi=>!C i) k) (bS (λi=>!C i) G k)) f (by rw[up.2.length_eq,List.length_map])
  have hl:=up.2.length_eq
  rw[List.length_map]at hl
  rw[List.length_append,List.length_map,List.length_take,List.length_map,Nat.min_eq_left g]at d1
  obtain⟨c,a1,a2⟩:=Oq q k G C _ _ g
  have m:aP C k+((List.range k).countP λj=>p j && !C j)=aP p k:=d1
  rw[m]at a1 a2
  refine lY.trans ?_ ?_ (Bj (vb _ _ _ _) _ _ (hl▸g:_<=aP (λi=>!C i) k))
  ·exact vb _ _ _ _ _
  ·refine Eq.subst (motive:=λd=>lY _ (tv d)) a1.symm (l _ c up.1 up.2 a2)
 |false=>
  have up:=sd k G
  obtain⟨n1,r⟩:=Hr u
  obtain⟨d1,g⟩:=tz (L:=G) (T:=T) (M:=dp (ltOf pP) k G) f (by rw[up.2.length_eq,r,List.length_map])
  have hl:=up.2.length_eq
  rw[List.length_map,List.length_range]at hl
  rw[n1,List.map_nil,List.nil_append,List.length_take,List.length_map,Nat.min_eq_left g]at d1
  obtain⟨c,a1,a2⟩:=Hq q _ _ g
  have m:((List.range k).countP λj=>p j && !C j)=aP p k:=d1
  refine lY.trans ?_ ?_ (Bj (se _ _) _ _ (hl▸g:_<=k))
  ·exact se _ _ _
  ·refine Eq.subst (motive:=λd=>lY _ (tv d)) a1.symm ?_
   rw[m]at a2⊢
   exact l _ c up.1 (by have:=up.2;rwa[r]) (by rw[n1,m];exact a2)
theorem Ot(q:Query)(x:ay):∀j,x.l<=(mf q x j).lo/\(mf q x j).hi<=x.h
 |0=>⟨Int.le_refl _,Int.le_refl _⟩
 |j+1=>by
  obtain⟨a,b⟩:=Ot q x j
  show x.l<=(j9 q x j (mf q x j)).lo/\(j9 q x j (mf q x j)).hi<=x.h
  simp only[j9]
  constructor
  ·repeat' split
   all_goals omega
  ·repeat' split
   all_goals omega
theorem Ou(x:ay)(f d e:Int)(h:f≠8):gJ x f d=gJ x f e:=by
 unfold gJ
 simp only[h,if_false]
theorem holds_of{q:Query}{x:ay}{d:Int}(h:∀k,k<q.nw->gG q x d k=true):dV q x d=true:=List.all_eq_true.2 λk a=>h k (List.mem_range.1 a)
theorem FX{q:Query}{x:ay}{d:Int}(p:eU q=true)(hx:bB x=true)(c:jA q x=true)(r:x.l<=d)(t:d<=x.h):qS q x d=true:=by
 obtain⟨_,u⟩:=fQ p
 have g:G6 q x q.nw (dC q x):=NF q x (λj v=>(u j v).2.1) q.nw (dw _)
 have b:x.l<=(dC q x).lo/\(dC q x).hi<=x.h:=Ot q x q.nw
 unfold jA lT fy rL at c
 simp only[bf,bn]at c
 obtain⟨i,w⟩:=c
 generalize dC q x=s at g b i w
 have y:((List.range s.n).filter λj=>decide (s.lo<=s.K j)&&decide (s.K j<=s.hi)).length=0:=O
 have f:∀m,m<s.n->s.K m≠d:=λm D e=>by
  have:=List.length_eq_zero_iff.1 y
  have:=(List.filter_eq_nil_iff.1 this) m (List.mem_range.2 D)
  simp only[bf,bn]at this
  omega
 obtain⟨_,_,E⟩:=g.own d O O f
 unfold qS xG
 simp only[bf,bn]
 refine⟨⟨r,t⟩,holds_of λk o=>?_⟩
 unfold gG
 by_cases a:q.C k 0=8
 ·rw[show gJ x (q.C k 0) d=d by rw[a];rfl];exact E k o a
 ·rw[Ou x _ d 0 a];exact g.other i k o a
theorem uz{q:Query}{x:ay}{d e:Int}(j:eU q=true)(h:qS q x d=true)(l:xG x e=true)(a:qS q x e=false)(m:d=e+1∨e=d+1):∃k,k<q.nw/\q.C k 2-1<=d/\d<=q.C k 2+1:=by
 obtain⟨_,n⟩:=fQ j
 unfold qS at h a
 rw[l,Bool.true_and]at a
 rw[bf]at h
 have a:∃k,k<q.nw/\gG q x e k=false:=Classical.byContradiction λc=>by
  rw[holds_of λk g=>by
   cases b:gG q x e k with
   |true=>rfl
   |false=>exact absurd ⟨k,g,b⟩ c]at a
  cases a
 obtain⟨k,g,b⟩:=a
 have f:gG q x d k=true:=List.all_eq_true.1 h.2 k (List.mem_range.2 g)
 refine⟨k,g,?_⟩
 unfold gG at b f
 by_cases i:q.C k 0=8
 ·rw[show gJ x (q.C k 0) e=e by rw[i];rfl]at b
  rw[show gJ x (q.C k 0) d=d by rw[i];rfl]at f
  unfold Nn at b f
  rw[iK]at b
  rw[bn]at f
  omega
 ·rw[Ou x _ e d i,f]at b
  cases b
theorem vc{q:Query}{x:ay}{d:Int}(h:qS q x d=true)(i:Nat)(hi:i<q.nw+2)(b:cY q x i 2-1<=d)(c:d<=cY q x i 2+1):∃m,m<jQ q x/\fT q x m=d:=by
 have a:d∈NH q x (3*(q.nw+2)):=by
  refine List.mem_filter.2 ⟨List.mem_map.2 ⟨3*i+(d-(cY q x i 2-1)).toNat,List.mem_range.2 O,?_⟩,h⟩
  rw[rU q x i _ O]
  omega
 obtain⟨m,a,e⟩:=List.mem_iff_getElem.1 a
 exact⟨m,a,by unfold fT;rw[List.getD_eq_getElem?_getD,mo a];exact e⟩
theorem Ov{q:Query}{x:ay}(b:eU q=true):∀(n:Nat)(d:Int),d=x.l+n->qS q x d=true->∃m,m<jQ q x/\fT q x m<=d
 |0,d,f,h=>by
  obtain⟨m,a,c⟩:=vc h q.nw O (by unfold cY;simp;omega) (by unfold cY;simp;omega)
  exact⟨m,a,O⟩
 |n+1,d,f,h=>by
  cases hp:qS q x (d-1)with
  |true=>
   obtain⟨m,a,c⟩:=Ov b n (d-1) O hp
   exact⟨m,a,O⟩
  |false=>
   have hi:xG x (d-1)=true:=by
    unfold qS at h
    unfold xG at h⊢
    simp only[bf,bn]at h⊢
    omega
   obtain⟨k,e,g,i⟩:=uz b h hi hp O
   obtain⟨m,a,c⟩:=vc h k O (by unfold cY;rw[if_pos e];omega) (by unfold cY;rw[if_pos e];omega)
   exact⟨m,a,O⟩
theorem Hs{q:Query}{x:ay}(b:eU q=true):∀(n:Nat)(d:Int),x.h=d+n->qS q x d=true->∃m,m<jQ q x/\d<=fT q x m
 |0,d,f,h=>by
  obtain⟨m,a,c⟩:=vc h (q.nw+1) O (by unfold cY;simp;omega) (by unfold cY;simp;omega)
  exact⟨m,a,O⟩
 |n+1,d,f,h=>by
  cases hp:qS q x (d+1)with
  |true=>
   obtain⟨m,a,c⟩:=Hs b n (d+1) O hp
   exact⟨m,a,O⟩
  |false=>
   have hi:xG x (d+1)=true:=by
    unfold qS at h
    unfold xG at h⊢
    simp only[bf,bn]at h⊢
    omega
   obtain⟨k,e,g,i⟩:=uz b h hi hp O
   obtain⟨m,a,c⟩:=vc h k O (by unfold cY;rw[if_pos e];omega) (by unfold cY;rw[if_pos e];omega)
   exact⟨m,a,O⟩
theorem Du(W:Nat->Int):∀k j,j<k->jc W k<=W j
 |k+1,j,a=>by
  show(if W k<jc W k then W k else jc W k)<=W j
  by_cases e:j=k
  ·subst e;split<;>omega
  ·have:=Du W k j O
   split<;>omega
theorem Ow{q:Query}{x:ay}{d:Int}(b:eU q=true)(c:gk q x=true)(h:qS q x d=true):kR q x<=(if q.fl=8 then d else kR q x)/\(if q.fl=8 then d else kR q x)<=lJ q x:=by
 have hi:x.l<=d/\d<=x.h:=by
  unfold qS xG at h
  simp only[bf,bn]at h
  omega
 have ha:(q.a=1/\q.fl=0)∨(q.a≠1/\(q.fl=7∨q.fl=8)):=by
  unfold eU EV at b
  simp only[bf,Bool.or_eq_true,bn]at b
  omega
 unfold kR lJ
 rw[c]
 show(if q.a=1 then 1 else _)<=(if q.fl=8 then d else if q.a=1 then 1 else _)/\_<=(if q.a=1 then 1 else _)
 rcases ha with⟨a1,a2⟩|⟨a1,a2⟩
 ·rw[if_pos a1,if_neg (O:¬ q.fl=8),if_pos a1];omega
 ·rw[if_neg a1,if_neg a1]
  rcases a2 with a2|a2
  ·rw[if_pos a2,if_neg (O:¬ q.fl=8),if_pos a2];omega
  ·rw[if_neg (O:¬ q.fl=7),if_pos a2,if_neg (O:¬ q.fl=7)]
   cases jA q x with
   |true=>exact hi
   |false=>
    obtain⟨m,e,f⟩:=Ov b (d-x.l).toNat d O h
    obtain⟨n,n1,g⟩:=Hs b (x.h-d).toNat d O h
    exact⟨Int.le_trans (Du _ _ _ e) f,Int.le_trans g (xu _ _ _ n1)⟩
theorem Rp{q:Query}{k:Nat}{F:Nat->ay}{D:Nat->Int}{a:bj}(e:eU q=true)(n:∀j,j<k->bB (F j)=true)(o:r9 k F D)(g:oc q F k a):
  lY (tv (eO q a.m a.L a.C)) (tv (pS q (yd q F D a) (uq q F D a)))/\lY (tv (pS q (yd q F D a) (uq q F D a))) (tv (dQ q a.m a.G a.C)):=by
 have h:∀j,j<a.m->a.C j=true->uG q F D a.T j=true:=λj b d=>by
  obtain⟨f,f1,p,i,_,_,f6⟩:=g j b
  rw[f6]at d
  unfold Br at d
  rw[bf]at d
  obtain⟨d1,r⟩:=o f f1
  unfold uG
  rw[show(a.T j).toNat=f by omega]
  exact FX e (n f f1) d.2 d1 r
 have l:∀j,j<a.m->uG q F D a.T j=true->a.L j<=Rb q D a.L a.T j/\Rb q D a.L a.T j<=a.G j:=λj b c=>by
  obtain⟨f,f1,p,i,s,f5,_⟩:=g j b
  unfold uG at c
  unfold Rb
  rw[show(a.T j).toNat=f by omega]at c⊢
  rw[s,f5]
  exact Ow e i c
 exact⟨UN q a.m a.L _ a.C _ h λj b c=>(l j b c).1,Ro q a.m a.G _ a.C _ h λj b c=>(l j b c).2⟩
end Go.Sx
end
section
set_option maxRecDepth 100000
namespace Go.Sx
open Go
theorem Wb(q:Query)(x:ay)(d:Int)(g:x.l<=d)(i:d<=x.h):∀j,(∀k,k<j->gG q x d k=true)->(mf q x j).c=true/\(mf q x j).lo<=d/\d<=(mf q x j).hi/\∀m,m<(mf q x j).n->(mf q x j).K m≠d
 |0,_=>⟨rfl,g,i,λm a=>absurd a (lZ _)⟩
 |j+1,h=>by
  obtain⟨a1,a2,o,a4⟩:=Wb q x d g i j λk t=>h k O
  have f:=h j (Nat.lt_succ_self j)
  show(j9 q x j (mf q x j)).c=true/\(j9 q x j (mf q x j)).lo<=d/\d<=(j9 q x j (mf q x j)).hi/\∀m,m<(j9 q x j (mf q x j)).n->(j9 q x j (mf q x j)).K m≠d
  generalize mf q x j=s at a1 a2 o a4
  unfold gG at f
  simp only[j9]
  by_cases b:q.C j 0=8
  ·rw[show gJ x (q.C j 0) d=d by rw[b];rfl]at f
   unfold Nn at f
   rw[bn]at f
   refine⟨by rw[a1,bW b];rfl,?_,?_,λm a=>?_⟩
   ·split
    ·split<;>omega
    ·omega
   ·split
    ·split<;>omega
    ·split
     ·split<;>omega
     ·omega
   ·by_cases p:q.C j 0=8/\q.C j 1=2/\gv (q.C j 2) s.K s.n=false
    ·rw[if_pos p]at a⊢
     by_cases e:m=s.n
     ·subst e
      simp only[dY,ni,cond_true]
      omega
     ·have r:Nat.beq m s.n=false:=by
       cases h:Nat.beq m s.n with
       |false=>rfl
       |true=>exact absurd (dE h) e
      simp only[dY,r,cond_false]
      exact a4 m O
    ·rw[if_neg p]at a⊢
     exact a4 m a
  ·rw[Ou x _ d 0 b]at f
   refine⟨by rw[a1,f,Bool.or_true];rfl,?_,?_,λm a=>?_⟩
   ·rw[if_neg λe=>b e.1];exact a2
   ·rw[if_neg λe=>b e.1,if_neg λe=>b e.1];exact o
   ·rw[if_neg λe=>b e.1]at a⊢
    exact a4 m a
theorem XU(q:Query)(x:ay):∀j,∀m a,m<(mf q x j).n->a<(mf q x j).n->m≠a->(mf q x j).K m≠(mf q x j).K a
 |0=>λm a f=>absurd f (lZ _)
 |j+1=>by
  have k:=XU q x j
  show ∀m a,m<(j9 q x j (mf q x j)).n->a<(j9 q x j (mf q x j)).n->m≠a->(j9 q x j (mf q x j)).K m≠(j9 q x j (mf q x j)).K a
  generalize mf q x j=s at k
  intro m a f b g
  simp only[j9]at f b⊢
  by_cases l:q.C j 0=8/\q.C j 1=2/\gv (q.C j 2) s.K s.n=false
  ·rw[if_pos l]at f b⊢
   have no:∀i,i<s.n->s.K i≠q.C j 2:=λi hi e=>by
    have:=NE.2 ⟨i,hi,e⟩
    rw[l.2.2]at this;cases this
   have d:∀i,i<s.n->dY s.n s.K (q.C j 2) i=s.K i:=λi hi=>by
    have o:Nat.beq i s.n=false:=by
     cases h:Nat.beq i s.n with
     |false=>rfl
     |true=>have:=dE h;omega
    simp only[dY,o,cond_false]
   have last:dY s.n s.K (q.C j 2) s.n=q.C j 2:=by simp only[dY,ni,cond_true]
   by_cases e:m=s.n
   ·subst e
    rw[last,d a O]
    exactλc=>no a O c.symm
   ·by_cases p:a=s.n
    ·subst p
     rw[last,d m O]
     exact no m O
    ·rw[d m O,d a O]
     exact k m a O O g
  ·rw[if_neg l]at f b⊢
   exact k m a f b g
theorem UY{K:Nat->Int}{n:Nat}(f:∀m d,m<n->d<n->m≠d->K m≠K d)(lo:Int):∀w:Nat,((List.range n).filter λm=>decide (lo<=K m)&&decide (K m<lo+w)).length<=w
 |0=>by
  rw[List.filter_eq_nil_iff.2 λm _=>zA];exact dw _
 |w+1=>by
  have g:=UY f lo w
  rw[<-List.countP_eq_length_filter]at g⊢
  rw[tx _ λm=>decide (K m<lo+w)]
  have p:(List.range n).countP (λm=>(decide (lo<=K m)&&decide (K m<lo+(w+1:Nat)))&&decide (K m<lo+w))<=(List.range n).countP λm=>decide (lo<=K m)&&decide (K m<lo+w):=List.countP_mono_left λm _ h=>by
   simp only[bf,bn]at h⊢
   exact⟨h.1.1,h.2⟩
  have q:(List.range n).countP (λm=>(decide (lo<=K m)&&decide (K m<lo+(w+1:Nat)))&& !decide (K m<lo+w))<=1:=by
   rw[List.countP_eq_length_filter]
   generalize hl:(List.range n).filter (λm=>(decide (lo<=K m)&&decide (K m<lo+(w+1:Nat)))&& !decide (K m<lo+w))=l
   have c:∀a,a∈l->a<n/\K a=lo+w:=λa ha=>by
    rw[<-hl]at ha
    obtain⟨i,j⟩:=List.mem_filter.1 ha
    simp only[bf,Bool.not_eq_true',bn,iK]at j
    exact⟨List.mem_range.1 i,O⟩
   have e:l.Pairwise (· < ·):=hl▸List.Pairwise.filter _ List.pairwise_lt_range
   match l,c,e with
   |[],_,_=>exact Nat.zero_le _
   |[_],_,_=>exact dw _
   |a::b::l,c,e=>
    have r:a<b:=(List.pairwise_cons.1 e).1 b zA
    obtain⟨a1,a2⟩:=c a zA
    obtain⟨k,o⟩:=c b zA
    exact absurd (a2.trans o.symm) (f a b a1 k O)
  omega
theorem Lu{q:Query}{x:ay}{d:Int}:qS q x d=true↔(x.l<=d/\d<=x.h)/\∀k,k<q.nw->gG q x d k=true:=by
 unfold qS xG dV
 simp only[bf,bn,List.all_eq_true,List.mem_range,ge_iff_le]
theorem Dj{q:Query}{x:ay}(c:eU q=true):gk q x=true↔ ∃d,qS q x d=true:=by
 constructor
 ·intro h
  obtain⟨d,a,_⟩:=QN c h
  exact⟨d,a⟩
 ·rintro⟨d,h⟩
  obtain⟨⟨a,f⟩,g⟩:=Lu.1 h
  obtain⟨a1,a2,i,a4⟩:=Wb q x d a f q.nw g
  have b:=XU q x q.nw
  unfold gk lT fy rL
  have e:mf q x q.nw=dC q x:=rfl
  rw[e]at a1 a2 i a4 b
  generalize dC q x=s at*
  rw[a1,Bool.true_and,bn]
  have f1:=UY b s.lo (d-s.lo).toNat
  have j:=UY b (d+1) (s.hi-d).toNat
  rw[<-List.countP_eq_length_filter]at f1 j⊢
  rw[tx _ λm=>decide (s.K m<s.lo+(d-s.lo).toNat)]
  have l:(List.range s.n).countP (λm=>(decide (s.lo<=s.K m)&&decide (s.K m<=s.hi))&&decide (s.K m<s.lo+(d-s.lo).toNat))<=(List.range s.n).countP λm=>decide (s.lo<=s.K m)&&decide (s.K m<s.lo+(d-s.lo).toNat):=List.countP_mono_left λm _ h=>by
   simp only[bf,bn]at h⊢
   exact⟨h.1.1,h.2⟩
  have o:(List.range s.n).countP (λm=>(decide (s.lo<=s.K m)&&decide (s.K m<=s.hi))&& !decide (s.K m<s.lo+(d-s.lo).toNat))<=(List.range s.n).countP λm=>decide (d+1<=s.K m)&&decide (s.K m<d+1+(s.hi-d).toNat):=List.countP_mono_left λm k h=>by
   have:=a4 m (List.mem_range.1 k)
   simp only[bf,Bool.not_eq_true',bn,iK]at h⊢
   omega
  omega
theorem P4{q:Query}{x:ay}(g:eU q=true)(hx:bB x=true):jA q x=true↔ ∀d,x.l<=d->d<=x.h->qS q x d=true:=by
 constructor
 ·exactλh d b e=>FX g hx h b e
 ·intro h
  have f:x.l<=x.h:=((jx hx).1).2.1
  have a:∀d,x.l<=d->d<=x.h->(dC q x).c=true/\(dC q x).lo<=d/\d<=(dC q x).hi/\∀m,m<(dC q x).n->(dC q x).K m≠d:=λd b e=>Wb q x d b e q.nw (Lu.1 (h d b e)).2
  obtain⟨k,o⟩:x.l<=(dC q x).lo/\(dC q x).hi<=x.h:=Ot q x q.nw
  unfold jA lT fy rL
  generalize dC q x=s at*
  obtain⟨l1,l2,p,_⟩:=a x.l (Int.le_refl _) f
  obtain⟨_,r,t,_⟩:=a x.h f (Int.le_refl _)
  rw[l1,Bool.true_and,bn]
  have:(List.range s.n).filter (λj=>decide (s.lo<=s.K j)&&decide (s.K j<=s.hi))=[]:=List.filter_eq_nil_iff.2 λm i c=>by
   simp only[bf,bn]at c
   exact(a (s.K m) O O).2.2.2 m (List.mem_range.1 i) A
  rw[this]
  show s.hi-s.lo+1-((0:Nat):Int)=_
  omega
end Go.Sx
end
section
set_option maxRecDepth 1000000
namespace Go.Sx
open Go
def ur(i:Nat):ay:=match i with|0=>⟨0,0,0,0,0,-1,0,10,20,1⟩|1=>⟨0,1,0,0,0,0,0,12,12,2⟩|_=>⟨0,2,0,0,0,0,0,5,30,4⟩
def zm(nw:Nat)(op a fl:Int)(nu de:List UInt8):Query:=⟨nw,λ_ k=>match k with|0=>8|1=>op|_=>12,0,λ_=>0,a,fl,nu,de,0⟩
def oX(a fl:Int):Query×List UInt8×List UInt8 :=
 if a=1 then(zm 1 4 1 0 [] [],[49],[51])else if a=2 then(if fl=8 then(zm 0 0 2 8 [] [],[50,55],[54,50])else(zm 1 4 2 7 [] [],[50],[55]))
 else if a=3 then(zm 1 4 3 8 [] [],[49,50],[50,49])else if a=4 then(zm 1 3 4 8 [] [],[48],[49,49])else(zm 0 0 5 8 [49] [50],[49,48],[50,48])
def Dv(lo hi:List UInt8):AV:=.bK [.az 1 9 (λ_=>[.az 0 1 (λ_=>[]),.str lo,.str [49],.str hi,.str [49],.str [48],.str [49],.str [48],.str [49]]),.int .i64 0]
def sg(q:Query)(lo hi:List UInt8):Prop:=(r8 q 3 ur,oU q 3 ur 0 0,oU q 3 ur 0 1,oU q 3 ur 0 2,oU q 3 ur 0 3)=(1,lo,[49],hi,[49])
theorem Y0:sg (zm 1 4 1 0 [] []) [49] [51]:=by
 delta sg oU jC eO dQ bN br c8 da jO iD
 rw[tu,tw]
 kernel_rfl
theorem Sn:sg (zm 0 0 2 8 [] []) [50,55] [54,50]:=by
 delta sg oU jC eO dQ bN br c8 da jO iD
 rw[tu,tw]
 kernel_rfl
theorem Yg:sg (zm 1 4 2 7 [] []) [50] [55]:=by
 delta sg oU jC eO dQ bN br c8 da jO iD
 rw[tu,tw]
 kernel_rfl
theorem Y2:sg (zm 1 4 3 8 [] []) [49,50] [50,49]:=by
 delta sg oU jC eO dQ bN br c8 da jO iD
 rw[tu,tw]
 kernel_rfl
theorem Y3:sg (zm 1 3 4 8 [] []) [48] [49,49]:=by
 delta sg oU jC eO dQ bN br c8 da jO iD
 rw[tu,tw]
 kernel_rfl
theorem Y4:sg (zm 0 0 5 8 [49] [50]) [49,48] [50,48]:=by
 delta sg oU jC eO dQ bN br c8 da jO iD
 rw[tu,tw]
 kernel_rfl
theorem S3(a fl:Int):sg (oX a fl).1 (oX a fl).2.1 (oX a fl).2.2/\ct (oX a fl).1=true/\(oX a fl).1.ng=0:=by
 unfold oX
 split
 ·exact⟨Y0,U,rfl⟩
 split
 ·split
  ·exact⟨Sn,U,rfl⟩
  ·exact⟨Yg,U,rfl⟩
 split
 ·exact⟨Y2,U,rfl⟩
 split
 ·exact⟨Y3,U,rfl⟩
 ·exact⟨Y4,U,rfl⟩
theorem Ht{n g:Nat}{K:Nat->Nat->Int}{S:Nat->Nat->List UInt8}{lo hi:List UInt8}(a:g=0)(b:n=1)(c:S 0 0=lo)(d:S 0 1=[49])(e:S 0 2=hi)(f:S 0 3=[49]):
  AV.le (λl=>l) (.bK [.az n 9 (aX g K S),.int .i64 0]) (Dv lo hi):=by
 subst a b c e
 refine⟨⟨rfl,rfl,λi hi=>?_⟩,⟨rfl,rfl⟩,trivial⟩
 have:i=0:=O
 subst this
 refine⟨⟨rfl,rfl,λj h=>absurd h (lZ j)⟩,rfl,d,rfl,f,rfl,rfl,rfl,rfl,trivial⟩
theorem af.S4{P:Program}{I:ba}{f:FuncId}{args:List AV}{H:AH}{a a':AV}(h:af P I f args H (.ret a H))(k:AV.le (λl=>l) a a'):af P I f args H (.ret a' H):=λc ρ w vs hG j m=>by
 have post:∀e w',(CO.ret a H).post c ρ e w'->(CO.ret a' H).post c ρ e w':=λe w' i=>by
  cases e with
  |returned v=>
   obtain⟨ρ',b,d,o⟩:=i
   refine⟨ρ',b,d,?_⟩
   obtain⟨u,us,e,q,_⟩:=aU.tQ (show bt.le _ [a] [a']from⟨k,trivial⟩) (aU.aL.2 ⟨o,(rfl:aU ρ' [] [])⟩)
   cases e
   exact q
  |panicked s=>exact i.elim
  |outgrown=>exact i.elim
 rcases h c ρ w vs hG j m with⟨b,d⟩|⟨v,w',b,d⟩
 ·exact .inl ⟨b,d.mono post⟩
 ·exact .inr ⟨v,w',b,post _ _ d⟩
theorem UO(a fl:Int):af PP II 13 [.agg (aY (oX a fl).1),cm 3 ur] HR (.ret (Dv (oX a fl).2.1 (oX a fl).2.2) HR):=by
 obtain⟨b,c,d⟩:=S3 a fl
 simp only[sg,Prod.mk.injEq]at b
 obtain⟨e,f,g,h,i⟩:=b
 exact(A8 (k:=3) (F:=ur) c U).S4 (Ht d e f g h i)
theorem Ox:af PP II 14 [.agg (aY (zm 0 0 2 8 [] [])),cm 3 ur,.az 3 1 (ae λi=>11+(i:Int))] HR (.ret (Dv [51,54] [51,54]) HR):=by
 have h:(sb (zm 0 0 2 8 [] []) 3 ur (λi=>11+(i:Int)),xm (zm 0 0 2 8 [] []) 3 ur (λi=>11+(i:Int)) 0 0,xm (zm 0 0 2 8 [] []) 3 ur (λi=>11+(i:Int)) 0 1,xm (zm 0 0 2 8 [] []) 3 ur (λi=>11+(i:Int)) 0 2,xm (zm 0 0 2 8 [] []) 3 ur (λi=>11+(i:Int)) 0 3)=(1,[51,54],[49],[51,54],[49]):=U
 simp only[Prod.mk.injEq]at h
 obtain⟨a,b,c,d,e⟩:=h
 exact(xn (q:=zm 0 0 2 8 [] []) (k:=3) (F:=ur) U U (pM U)).S4 (Ht A a b c d e)
end Go.Sx
end
section
set_option maxRecDepth 1000000
namespace Go.Sx
open Go
noncomputable def Pd(n:Nat)(a:Nat->Int)(C:Int->Nat->Int)(i:Int):St:={t:=Tr.ofList [(1,.az n 1 (ae a)),(2,.fn 61 [] []),(7,.slice 12 0 0 n (some n) 1),(18,.az n 1 (ae a)),(19,.int .i64 (Int.ofNat n)),(20,.int .i64 i)],nt:=38,H:={n:=13,t:=Tr.ofList [(12,.rows n 1 (ae (C i)) (.ty 3))]},df:=[]}
noncomputable def Pe(n:Nat)(C:Nat->Int):GE:=.one (.x 0 {t:=Tr.ofList [(7,.slice 12 0 0 n (some n) 1)],nt:=38,H:={n:=13,t:=Tr.ofList [(12,.rows n 1 (ae C) (.ty 3))]},df:=[]})
theorem Oy(n:Nat)(a:Nat->Int)(C:Int->Nat->Int)(Z:Nat->Int)(i:Int)(Q:Prop):(kr [] [] 174 4001 13 (Pd n a C) (λ_=>Pe n Z) (λi=>i+1) Q i)=(let b:=(decide (0<=i)&&decide (i<Int.ofNat n));(ah (decide (i<Int.ofNat n)) (aa b (aa (decide (0+i.toNat<n)) (aa b (aa (aN .i64 (C i (0+i.toNat)+a i.toNat)) (aa b (aa (decide (0+i.toNat<n)) (aa (aN .i64 (i+1)) (zyN n (an n (λc=>[AV.int .i64 (bif decide (c=0+i.toNat)then C i (0+i.toNat)+a i.toNat else C i c)]) (ae (C (i+1)))/\zyN n (zyN n (zyI (Int.ofNat n) (zyN n (zyR n (ae a) (zyI (i+1) (zyN n (zyR n (ae a) Q)))))))))))))))) (zyN n (an n (ae (C i)) (ae Z)/\zyN n (zyN n True))))):=U
theorem UP(n:Nat)(a b:Nat->Int)(C:Int->Nat->Int)(Z:Nat->Int)(Q:AV->Prop):(kb [] [(4001,13,Pd n b C 0,Pe n Z)] 174 [.az n 1 (ae a),.az n 1 (ae b),.fn 61 [] []] Q)=(aa (decide (0<=if Int.ofNat n>Int.ofNat n then Int.ofNat n else Int.ofNat n)&&decide ((if Int.ofNat n>Int.ofNat n then Int.ofNat n else Int.ofNat n)<=if Int.ofNat n>Int.ofNat n then Int.ofNat n else Int.ofNat n)&&xF (8*if Int.ofNat n>Int.ofNat n then Int.ofNat n else Int.ofNat n) 281474976710656&&xF (if Int.ofNat n>Int.ofNat n then Int.ofNat n else Int.ofNat n) 9223372036854775807) (aa (decide ((0+if n<=Int.toNat (if Int.ofNat n>Int.ofNat n then Int.ofNat n else Int.ofNat n)then n else Int.toNat (if Int.ofNat n>Int.ofNat n then Int.ofNat n else Int.ofNat n))<=Int.toNat (if Int.ofNat n>Int.ofNat n then Int.ofNat n else Int.ofNat n))) (Zu PP II false (aD II 174 4001) 13 (Pd n b C 0) (Pe n Z)/\ax (Int.toNat (if Int.ofNat n>Int.ofNat n then Int.ofNat n else Int.ofNat n)) n (an (Int.toNat (if Int.ofNat n>Int.ofNat n then Int.ofNat n else Int.ofNat n)) (λi=>bif Nat.ble 0 i&&Nat.blt i (0+if n<=Int.toNat (if Int.ofNat n>Int.ofNat n then Int.ofNat n else Int.ofNat n)then n else Int.toNat (if Int.ofNat n>Int.ofNat n then Int.ofNat n else Int.ofNat n))then ae a (i-0)else [AV.int .i64 0]) (ae (C 0))/\ax (Int.toNat (if Int.ofNat n>Int.ofNat n then Int.ofNat n else Int.ofNat n)) n (ax (Int.toNat (if Int.ofNat n>Int.ofNat n then Int.ofNat n else Int.ofNat n)) n (zyI (Int.ofNat n) (zyN n (zyR n (ae b) (zyN n (zyR n (ae b) (aa ((List.all (List.range.loop n []) λi=>true)&&decide (0+n<=n)) (Q (AV.az n 1 λi=>ae Z (0+i)))))))))))))):=U
theorem Rq(n:Nat)(a:Nat->Int)(C:Int->Nat->Int)(Z:Nat->Int)(Q:AV->Prop):(kb [] [(4001,13,Pd n a C 0,Pe n Z)] 174 [.aw,.az n 1 (ae a),.fn 61 [] []] Q)=(aa (decide (0<=if Int.ofNat n>0 then Int.ofNat n else 0)&&decide ((if Int.ofNat n>0 then Int.ofNat n else 0)<=if Int.ofNat n>0 then Int.ofNat n else 0)&&xF (8*if Int.ofNat n>0 then Int.ofNat n else 0) 281474976710656&&xF (if Int.ofNat n>0 then Int.ofNat n else 0) 9223372036854775807) (aa (decide ((0+if 0<=Int.toNat (if Int.ofNat n>0 then Int.ofNat n else 0)then 0 else Int.toNat (if Int.ofNat n>0 then Int.ofNat n else 0))<=Int.toNat (if Int.ofNat n>0 then Int.ofNat n else 0))) (Zu PP II false (aD II 174 4001) 13 (Pd n a C 0) (Pe n Z)/\ax (Int.toNat (if Int.ofNat n>0 then Int.ofNat n else 0)) n (an (Int.toNat (if Int.ofNat n>0 then Int.ofNat n else 0)) (λi=>bif Nat.ble 0 i&&Nat.blt i (0+if 0<=Int.toNat (if Int.ofNat n>0 then Int.ofNat n else 0)then 0 else Int.toNat (if Int.ofNat n>0 then Int.ofNat n else 0))then []else [AV.int .i64 0]) (ae (C 0))/\ax (Int.toNat (if Int.ofNat n>0 then Int.ofNat n else 0)) n (ax (Int.toNat (if Int.ofNat n>0 then Int.ofNat n else 0)) n (zyI (Int.ofNat n) (zyN n (zyR n (ae a) (zyN n (zyR n (ae a) (aa ((List.all (List.range.loop n []) λi=>true)&&decide (0+n<=n)) (Q (AV.az n 1 λi=>ae Z (0+i)))))))))))))):=U
end Go.Sx
end
section
set_option maxRecDepth 1000000
namespace Go.Sx
open Go
def lH(a b:Nat->Int)(j:Int)(i:Nat):Int:=if(i:Int)<j then a i+b i else a i
theorem Dw(n:Nat)(a b:Nat->Int)(o:n<=1000000)(hA:∀i,i<n->aN .i64 (a i+b i)=true):Zu PP II false (aD II 174 4001) 13 (Pd n b (lH a b) 0) (Pe n (λi=>a i+b i)):=by
 have key:=Zu.of (ι:=Nat) iw [] (bm PP II []) 1000 (c:=aD II 174 4001) (ir:=false) 13 (λj=>j<=n) (λj=>Pd n b (lH a b) (j:Int)) (λ_=>Pe n (λi=>a i+b i)) (λj=>n-j) (λj=>j+1) 0 A (Nat.zero_le _) λj d=>?_
 ·exact key
 have d:j<=n:=d
 have go:∀(i:Int)(Q:Prop),i=(j:Int)->(j<n->Q)->kr [] [] 174 4001 13 (Pd n b (lH a b)) (λ_=>Pe n (λi=>a i+b i)) (λj=>j+1) Q i:=λi Q hi hQ=>by
  rw[Oy]
  have p:Int.ofNat n=(n:Int):=rfl
  have g:Int.toNat i=j:=O
  rw[g,Nat.zero_add]
  refine Zg (λh=>?_) λh=>?_
  ·have ha:(decide (0<=i)&&decide (i<Int.ofNat n))=true:=by simp only[bf,bn];omega
   have f:decide (j<n)=true:=bW O
   have l:lH a b i j=a j:=by unfold lH;rw[if_neg O]
   rw[l]
   refine cC _ _ ha (cC _ _ f (cC _ _ ha (cC _ _ (hA j O) (cC _ _ ha (cC _ _ f (cC _ _ (aq O O) ?_))))))
   refine YG A ⟨λk m σ=>?_,YG A (YG A (Zf A (YG A ⟨bL _ _,Zf A (YG A ⟨bL _ _,hQ O⟩)⟩)))⟩
   show bt.le σ [.int .i64 (bif decide (k=j)then a j+b j else lH a b i k)] [.int .i64 (lH a b (i+1) k)]
   have:(bif decide (k=j)then a j+b j else lH a b i k)=lH a b (i+1) k:=by
    unfold lH
    by_cases e:k=j
    ·rw[bW e,cond_true,if_pos O,e]
    ·rw[nZ e,cond_false]
     by_cases c:(k:Int)<i
     ·rw[if_pos c,if_pos O]
     ·rw[if_neg c,if_neg O]
   rw[this]
   exact⟨⟨rfl,rfl⟩,trivial⟩
  ·refine YG A ⟨λk m σ=>?_,YG A (YG A trivial)⟩
   show bt.le σ [.int .i64 (lH a b i k)] [.int .i64 (a k+b k)]
   have:lH a b i k=a k+b k:=by unfold lH;rw[if_pos O]
   rw[this]
   exact⟨⟨rfl,rfl⟩,trivial⟩
 exact go (j:Int) _ A λh=>⟨h,O,rfl⟩
theorem UQ{n:Nat}{a b:Nat->Int}(c:n<=1000000)(hA:∀i,i<n->aN .i64 (a i+b i)=true):
  af PP II 174 [.az n 1 (ae a),.az n 1 (ae b),.fn 61 [] []] (AH.blank 12) (.ret (.az n 1 (ae λi=>a i+b i)) (AH.blank 12)):=by
 refine bY (ks:=[]) (T:=[(4001,13,Pd n b (lH a b) 0,Pe n (λi=>a i+b i))]) (λσ=>⟨rfl,rfl,λi _=>Zy _ _ _⟩) ?_
 rw[UP]
 have e:Int.ofNat n=(n:Int):=rfl
 have m:(if Int.ofNat n>Int.ofNat n then Int.ofNat n else Int.ofNat n)=Int.ofNat n:=by split<;>rfl
 have t:Int.toNat (Int.ofNat n)=n:=O
 rw[m,t,if_pos (dw n),Nat.zero_add]
 refine cC _ _ zN (cC _ _ (bW (dw n)) ⟨Dw n a b c hA,?_⟩)
 refine YG A ⟨λk d σ=>?_,YG A (YG A (Zf A (YG A ⟨bL _ _,YG A ⟨bL _ _,cC _ _ ?_ ?_⟩⟩)))⟩
 ·show bt.le σ (bif Nat.ble 0 k&&Nat.blt k n then ae a (k-0)else [.int .i64 0]) (ae (lH a b 0) k)
  rw[eV d,Bool.and_true,kV (Nat.zero_le k),cond_true]
  show bt.le σ [.int .i64 (a k)] [.int .i64 (lH a b 0 k)]
  have:lH a b 0 k=a k:=by unfold lH;rw[if_neg O]
  rw[this]
  exact⟨⟨rfl,rfl⟩,trivial⟩
 ·rw[bW (show n<=n from dw n),Bool.and_true]
  exact List.all_eq_true.2 λ_ _=>rfl
 ·show AV.az n 1 (λi=>ae (λi=>a i+b i) (0+i))=_
  congr 1
  funext i
  rw[Nat.zero_add]
theorem Rs{n:Nat}{a:Nat->Int}(b:n<=1000000)(hA:∀i,i<n->aN .i64 (0+a i)=true):
  af PP II 174 [.aw,.az n 1 (ae a),.fn 61 [] []] (AH.blank 12) (.ret (.az n 1 (ae λi=>0+a i)) (AH.blank 12)):=by
 refine bY (ks:=[]) (T:=[(4001,13,Pd n a (lH (λ_=>0) a) 0,Pe n (λi=>0+a i))]) (λσ=>⟨rfl,rfl,λi _=>Zy _ _ _⟩) ?_
 rw[Rq]
 have c:Int.ofNat n=(n:Int):=rfl
 have m:(if Int.ofNat n>0 then Int.ofNat n else 0)=Int.ofNat n:=by split<;>omega
 have t:Int.toNat (Int.ofNat n)=n:=O
 rw[m,t,if_pos (Nat.zero_le n),Nat.zero_add]
 refine cC _ _ zN (cC _ _ (bW (Nat.zero_le n)) ⟨Dw n (λ_=>0) a b hA,?_⟩)
 refine YG A ⟨λk d σ=>?_,YG A (YG A (Zf A (YG A ⟨bL _ _,YG A ⟨bL _ _,cC _ _ ?_ ?_⟩⟩)))⟩
 ·show bt.le σ (bif Nat.ble 0 k&&Nat.blt k 0 then []else [.int .i64 0]) (ae (lH (λ_=>0) a 0) k)
  rw[js (lZ k),Bool.and_false,cond_false]
  show bt.le σ [.int .i64 0] [.int .i64 (lH (λ_=>0) a 0 k)]
  have:lH (λ_=>0) a 0 k=0:=by unfold lH;rw[if_neg O]
  rw[this]
  exact⟨⟨rfl,rfl⟩,trivial⟩
 ·rw[bW (O:0+n<=n),Bool.and_true]
  exact List.all_eq_true.2 λ_ _=>rfl
 ·show AV.az n 1 (λi=>ae (λi=>0+a i) (0+i))=_
  congr 1
  funext i
  rw[Nat.zero_add]
noncomputable def Yh:aC PP II:=aC.pure 174
 (λX args b=>match args with
  |[.az n 1 f,.az m 1 g,.fn 61 [] []]=>X.ak (bA n f&&bA m g&&Nat.beq m n&&Nat.ble n 1000000&&(List.range n).all λi=>aN .i64 (aM f i+aM g i)) (b (.az n 1 (ae λi=>aM f i+aM g i)))
  |[.aw,.az m 1 g,.fn 61 [] []]=>X.ak (bA m g&&Nat.ble m 1000000&&(List.range m).all λi=>aN .i64 (0+aM g i)) (b (.az m 1 (ae λi=>0+aM g i)))
  |_=>X.fail)
 λX sem hX args b h=>by
  split at h
  ·obtain⟨a,c⟩:=hX.ak _ _ h
   simp only[bf]at a
   obtain⟨⟨⟨⟨a1,a2⟩,d⟩,a4⟩,e⟩:=a
   cases dE d
   exact⟨_,c,λ_=>rfl,λ_=>rfl,af.nT (UQ (jX a4) λi hi=>List.all_eq_true.1 e i (List.mem_range.2 hi)) (cy a1) (cy a2) ⟨rfl,trivial,trivial⟩⟩
  ·obtain⟨a,c⟩:=hX.ak _ _ h
   simp only[bf]at a
   obtain⟨⟨a1,a2⟩,d⟩:=a
   exact⟨_,c,λ_=>rfl,λ_=>rfl,af.nT (Rs (jX a2) λi hi=>List.all_eq_true.1 d i (List.mem_range.2 hi)) trivial (cy a1) ⟨rfl,trivial,trivial⟩⟩
  ·exact zR
end Go.Sx
end
section
set_option maxRecDepth 1000000
namespace Go.Sx
open Go
def Vr(f:Nat->List AV):Bool:=fh 3 f&&decide (bP f 0=ur 0)&&decide (bP f 1=ur 1)&&decide (bP f 2=ur 2)
theorem Bk{f:Nat->List AV}(h:Vr f=true):AV.le (λl=>l) (.az 3 10 f) (cm 3 ur):=by
 unfold Vr at h
 simp only[bf,bn]at h
 obtain⟨⟨⟨a,b⟩,c⟩,d⟩:=h
 have h:=fq a
 obtain⟨e,g,k⟩:=h
 refine⟨rfl,rfl,λi hi=>?_⟩
 have k:=k i hi
 match i,hi with
 |0,_=>show bt.le _ (f 0) (aF (ur 0));rw[<-b];exact k
 |1,_=>show bt.le _ (f 1) (aF (ur 1));rw[<-c];exact k
 |2,_=>show bt.le _ (f 2) (aF (ur 2));rw[<-d];exact k
 |i+3,h=>exact absurd h O
def W3(w:AV)(q:Query):Bool:=match w with
 | .aw=>Nat.beq q.nw 0
 | .az 1 3 g=>Nat.beq q.nw 1&&(match g 0 with|[.int .i64 x,.int .i64 y,.int .i64 a]=>decide (x=q.C 0 0)&&decide (y=q.C 0 1)&&decide (a=q.C 0 2)|_=>false)
 |_=>false
theorem UR{w:AV}{q:Query}(h:W3 w q=true):AV.le (λl=>l) w (.az q.nw 3 (au q.C))/\∀σ,AV.bD σ w=w:=by
 unfold W3 at h
 split at h
 ·exact⟨dE h,λ_=>rfl⟩
 ·rename_i g
  rw[bf]at h
  obtain⟨c,b⟩:=h
  have c:=dE c
  refine⟨⟨c.symm,rfl,λi hi=>?_⟩,λ_=>rfl⟩
  have:i=0:=O
  subst this
  split at b
  ·rename_i x y a e
   simp only[bf,bn]at b
   rw[e,b.1.1,b.1.2,b.2]
   exact⟨⟨rfl,rfl⟩,⟨rfl,rfl⟩,⟨rfl,rfl⟩,trivial⟩
  ·cases b
 ·cases h
theorem Rt:af PP II 13 [.agg [.aw,.aw,.int .i64 0,.int .i64 0,.str [],.str [],.int .i64 0],cm 3 ur] HR (.ret (.bK [.aw,.int .i64 200]) HR):=by
 refine qh (ks:=[]) (T:=[]) ?_
 have:∀Q:AV->Prop,kq [] [] 13 [.agg [.aw,.aw,.int .i64 0,.int .i64 0,.str [],.str [],.int .i64 0],cm 3 ur] Q=Q (.bK [.aw,.int .i64 200]):=λQ=>U
 rw[this]
 exactλσ=>⟨trivial,⟨rfl,rfl⟩,trivial⟩
noncomputable def S5:aC PP II:=aC.s9 13
 (λX args d=>match args with
  |[.agg [w,.aw,.int .i64 a,.int .i64 fl,.str nu,.str de,.int .i64 t],.az 3 10 f]=>match decide (a=0)with
   |true=>X.ak (W3 w (zm 0 0 0 0 [] [])&&decide (fl=0)&&List.beq nu []&&List.beq de []&&decide (t=0)&&Vr f) (d (.bK [.aw,.int .i64 200]))
   |false=>X.ak (W3 w (oX a fl).1&&decide (a=(oX a fl).1.a)&&decide (fl=(oX a fl).1.fl)&&List.beq nu (oX a fl).1.nu&&List.beq de (oX a fl).1.de&&decide (t=(oX a fl).1.top)&&Vr f) (d (Dv (oX a fl).2.1 (oX a fl).2.2))
  |_=>X.fail)
 λX sem hX args d h=>by
  split at h
  ·rename_i w a fl nu de t f
   split at h
   ·rename_i ha
    obtain⟨c,e⟩:=hX.ak _ _ h
    simp only[bf,bn]at c ha
    obtain⟨⟨⟨⟨⟨b,g⟩,i⟩,j⟩,k⟩,l⟩:=c
    subst ha g k
    cases eq_of_beq (α:=List UInt8) i
    cases eq_of_beq (α:=List UInt8) j
    have m:w= .aw:=by
     unfold W3 at b
     split at b
     ·rfl
     ·rw[bf]at b;cases b.1
     ·cases b
    subst m
    exact⟨_,e,λ_=>rfl,λ_=>rfl,af.dA Rt ⟨trivial,trivial,⟨rfl,rfl⟩,⟨rfl,rfl⟩,rfl,rfl,⟨rfl,rfl⟩,trivial⟩ (Bk l)⟩
   ·obtain⟨c,e⟩:=hX.ak _ _ h
    simp only[bf,bn]at c
    obtain⟨⟨⟨⟨⟨⟨b,g⟩,i⟩,j⟩,k⟩,l⟩,n⟩:=c
    obtain⟨o,p⟩:=UR b
    refine⟨_,e,λ_=>rfl,λσ=>?_,af.dA (UO a fl) ⟨o,(S3 a fl).2.2,⟨rfl,g⟩,⟨rfl,i⟩,eq_of_beq (α:=List UInt8) j,eq_of_beq (α:=List UInt8) k,⟨rfl,l⟩,trivial⟩ (Bk n)⟩
    show [AV.agg [AV.bD σ w,.aw,.int .i64 a,.int .i64 fl,.str nu,.str de,.int .i64 t],AV.az 3 10 f]=_
    rw[p]
  ·exact zR
noncomputable def Hu:aC PP II:=aC.s9 14
 (λX args a=>match args with
  |[.agg [.aw,.aw,.int .i64 2,.int .i64 8,.str [],.str [],.int .i64 0],.az 3 10 f,.az 3 1 g]=>X.ak (Vr f&&bA 3 g&&decide (aM g 0=11)&&decide (aM g 1=12)&&decide (aM g 2=13)) (a (Dv [51,54] [51,54]))
  |_=>X.fail)
 λX sem hX args a h=>by
  split at h
  ·rename_i f g
   obtain⟨b,c⟩:=hX.ak _ _ h
   simp only[bf,bn]at b
   obtain⟨⟨⟨⟨d,e⟩,j⟩,l⟩,m⟩:=b
   refine⟨_,c,λ_=>rfl,λ_=>rfl,af.nT Ox ⟨(rfl:0=0),(rfl:0=0),⟨rfl,rfl⟩,⟨rfl,rfl⟩,rfl,rfl,⟨rfl,rfl⟩,trivial⟩ (Bk d) ?_⟩
   obtain⟨_,_,k⟩:=cy e
   refine⟨rfl,rfl,λi hi=>?_⟩
   have k:=k i hi
   match i,hi with
   |0,_=>show bt.le _ (g 0) [.int .i64 11];rw[<-j];exact k
   |1,_=>show bt.le _ (g 1) [.int .i64 12];rw[<-l];exact k
   |2,_=>show bt.le _ (g 2) [.int .i64 13];rw[<-m];exact k
   |i+3,h=>exact absurd h O
  ·exact zR
def Oz(n d:Int):Bool:=(decide (d=1)&&[(0:Int),1,2,3,6,7,10,11,12,18,20,21,27,36,62].contains n)||(decide (d=2)&&decide (n=1))
def Ru(n d:Int):AV:=.agg [.str (bu n.toNat),.str (bu d.toNat)]
set_option maxHeartbeats 0 in
theorem US{n d:Int}(h:Oz n d=true):af PP II 34 [.int .i64 n,.int .i64 d] (AH.blank 12) (.ret (Ru n d) (AH.blank 12)):=by
 have go:∀{n d:Int},(∀Q:AV->Prop,kb [] [] 34 [.int .i64 n,.int .i64 d] Q=Q (Ru n d))->af PP II 34 [.int .i64 n,.int .i64 d] (AH.blank 12) (.ret (Ru n d) (AH.blank 12)):=λ{n d} e=>by
  refine bY (ks:=[]) (T:=[]) (λ_=>⟨rfl,rfl,trivial⟩) ?_
  rw[e]
 unfold Oz at h
 simp only[Bool.or_eq_true,bf,bn,List.contains_iff_mem,List.mem_cons,List.not_mem_nil,or_false]at h
 rcases h with⟨rfl,h⟩|⟨rfl,rfl⟩
 ·rcases h with rfl|rfl|rfl|rfl|rfl|rfl|rfl|rfl|rfl|rfl|rfl|rfl|rfl|rfl|rfl
  all_goals exact go λQ=>by as_aux_lemma=>kernel_rfl
 ·exact go λQ=>by as_aux_lemma=>kernel_rfl
noncomputable def W4:aC PP II:=aC.pure 34
 (λX args a=>match args with
  |[.int .i64 n,.int .i64 d]=>X.ak (Oz n d) (a (Ru n d))
  |_=>X.fail)
 λX sem hX args a h=>by
  split at h
  ·obtain⟨b,c⟩:=hX.ak _ _ h
   exact⟨_,c,λ_=>rfl,λ_=>rfl,US b⟩
  ·exact zR
end Go.Sx
end
