/- The proof of a statement of the seat, part 39. -/
import Derived.Test.YtoijalagmmgkbaaGreatDoorX38
import Derived.Test.YtoijalagmmgkbaaGreatDoorX32
import Derived.Test.YtoijalagmmgkbaaGreatDoorX37
import Derived.Test.YtoijalagmmgkbaaGreatDoorX31
set_option linter.all false
set_option linter.defProp false
section
set_option maxRecDepth 1000000
namespace Go.Sx
open Go
theorem V5(n:Nat)(X:Nat->Nat->Int)(m:Int->Nat)(G:Int->Nat->ay)(M:Nat)(Z:Nat->ay):(jE ([]:List (aC PP II)) (mG PP II [(3008,12,sF n X m G (false,0),FT M Z)]) 1000 12 [.az n 6 (fm X)] (AH.blank 12) (λa H=>qa 12 a H (.own 12 M 10) ((AH.blank 12).new (.rows M 10 (λj=>aF (Z j)) (.ty 48))) True) (λ_ _=>False))=(aE PP II false (aD II 12 3008) 12 (sF n X m G (false,0)) (FT M Z)/\zyN n (zyR n (fm X) (zyN M ((an M (λj=>aF (Z j)) λj=>aF (Z j))/\zyN M True)))):=U
def RC(k:Nat)(F:Nat->ay):bq:=.rows k 10 (λj=>aF (F j)) (.ty 48)
theorem TC{n:Nat}{X:Nat->Nat->Int}(hX:∀j,j<n->Yb X j=true):
  af PP II 12 [.az n 6 (fm X)] (AH.blank 12) (.ret (.own 12 (mZ n X) 10) ((AH.blank 12).new (RC (mZ n X) (oW n X)))):=by
 have h:jE ([]:List (aC PP II)) (mG PP II [(3008,12,sF n X (mX X) (gX X) (false,0),FT (mZ n X) (oW n X))]) 1000 12 [.az n 6 (fm X)] (AH.blank 12) (λa H=>qa 12 a H (.own 12 (mZ n X) 10) ((AH.blank 12).new (.rows (mZ n X) 10 (λj=>aF (oW n X j)) (.ty 48))) True) (λ_ _=>False):=by
  rw[V5]
  refine⟨RH hX,YG A ⟨u6 n X,YG A ⟨λi _ σ=>cL σ _,YG A trivial⟩⟩⟩
 obtain⟨o,b,c⟩:=fJ iw _ (bm PP II _) 1000 12 _ (AH.blank 12) _ _ h
 cases o with
 |ret a H1=>exact c.le (qa.ok b).1
 |qt a H1=>exact b.elim
noncomputable def Su(k:Nat)(F:Nat->ay):aC PP II where
 f:=12
 spec:=λX args H b _=>match args with
  |[.az n 6 f]=>X.ak (aI 6 n f&&zp k F n f) (b (.own H.n k 10) (H.new (RC k F)))
  |_=>X.fail
 ok:=λX sem hX args H b kp h=>by
  split at h
  ·rename_i n f
   obtain⟨c,d⟩:=hX.ak _ _ h
   rw[bf]at c
   obtain⟨a1,a2⟩:=c
   obtain⟨e,g⟩:=OF a2
   have:=TC (X:=bG f) λj m=>(u7 (c7 a1 m)).2
   rw[e,g]at this
   have:=af.fresh (a:=λl=> .own l k 10) this (λ_=>rfl) (λ_ _=>rfl) (λ_=>rfl) H
   refine⟨.ret _ _,d,this.dq ⟨⟨rfl,rfl,λi hi=>?_⟩,trivial⟩⟩
   rw[(u7 (c7 a1 hi)).1]
   exact⟨⟨rfl,rfl⟩,⟨rfl,rfl⟩,⟨rfl,rfl⟩,⟨rfl,rfl⟩,⟨rfl,rfl⟩,⟨rfl,rfl⟩,trivial⟩
  ·exact zR
end Go.Sx
end
section
namespace Go.Sx
theorem Ds{P:Int->Bool}:∀{l:List Int},l.Pairwise (λa b=>P b=true->P a=true)->∀s,(l.take s).countP P=min s (l.countP P)
 |[],_,s=>zA
 |a::l,h,0=>zA
 |a::l,h,s+1=>by
  obtain⟨c,d⟩:=List.pairwise_cons.1 h
  rw[List.take_succ_cons,List.countP_cons,List.countP_cons,Ds d s]
  cases ha:P a with
  |true=>simp only[if_true];omega
  |false=>
   have:l.countP P=0:=List.countP_eq_zero.2 λb f e=>by
    have:=c b f e
    rw[ha]at this;cases this
   rw[this];simp
theorem tx{α:Type}(P Q:α->Bool):∀l:List α,l.countP P=l.countP (λa=>P a&&Q a)+l.countP λa=>P a && !Q a
 |[]=>rfl
 |a::l=>by
  rw[List.countP_cons,List.countP_cons,List.countP_cons,tx P Q l]
  cases P a<;>cases Q a<;>simp<;>omega
theorem Ol{r:List Nat}{p C:Nat->Bool}{L T:Nat->Int}{P:Int->Bool}{M:List Int}(f:∀j,j∈r->C j=true->p j=true)(hL:∀j,j∈r->p j=true->P (T j)=true->P (L j)=true)(d:M.Pairwise λa b=>P b=true->P a=true)(e:M.Perm ((r.filter λj=>!C j).map L)):
  ((r.filter p).map T).countP P<=((r.filter C).map L++M.take (r.countP λj=>p j && !C j)).countP P:=by
 rw[List.countP_append,Ds d,e.countP_eq,List.countP_map,List.countP_map,List.countP_map,List.countP_filter,List.countP_filter,List.countP_filter]
 refine Nat.le_trans (List.countP_mono_left (q:=λj=>P (L j)&&p j) λj c h=>?_) ?_
 ·simp only[Function.comp,bf]at h⊢
  exact⟨hL j c h.2 h.1,h.2⟩
 ·rw[tx (λj=>P (L j)&&p j) C]
  refine Nat.add_le_add (List.countP_mono_left λj c h=>?_) (Nat.le_min.2 ⟨List.countP_mono_left λj c h=>?_,List.countP_mono_left λj c h=>?_⟩)
  ·simp only[Function.comp,bf]at h⊢
   exact⟨h.1.1,h.2⟩
  ·simp only[Function.comp,bf]at h⊢
   exact⟨h.1.2,h.2⟩
  ·simp only[Function.comp,bf]at h⊢
   exact⟨h.1.1,h.2⟩
theorem tz{r:List Nat}{p C:Nat->Bool}{L T:Nat->Int}{M:List Int}(b:∀j,j∈r->C j=true->p j=true)(c:M.length=(r.filter λj=>!C j).length):
  ((r.filter C).map L++M.take (r.countP λj=>p j && !C j)).length=((r.filter p).map T).length/\(r.countP λj=>p j && !C j)<=M.length:=by
 rw[List.length_append,List.length_map,List.length_map,List.length_take,c,<-List.countP_eq_length_filter,<-List.countP_eq_length_filter,<-List.countP_eq_length_filter]
 have d:(r.countP λj=>p j && !C j)<=r.countP λj=>!C j:=List.countP_mono_left λj a h=>by
  simp only[bf]at h
  exact h.2
 have e:r.countP C=r.countP λj=>p j&&C j:=List.countP_congr λj a=>by
  simp only[bf]
  exact⟨λh=>⟨b j a h,h⟩,λh=>h.2⟩
 have:=tx p C r
 omega
structure Dm (l m:List Int):Prop where
 len:l.length=m.length
 Xu:∀x:Int,m.countP (λa=>decide (a<=x))<=l.countP λa=>decide (a<=x)
theorem Dm.up{l m:List Int}(h:l.length=m.length)(k:∀x:Int,l.countP (λy=>decide (x<y))<=m.countP λy=>decide (x<y)):Dm l m where
 len:=h
 Xu x:=by
  have e:∀n:List Int,n.length=n.countP (λy=>decide (x<y))+n.countP λy=>decide (y<=x):=λn=>by
   rw[List.length_eq_countP_add_countP (λy=>decide (x<y))]
   congr 1
   exact List.countP_congr λy _=>zA
  have:=k x
  have a:=e l
  have b:=e m
  omega
theorem Dm.perm{l a m b:List Int}(h:Dm l m)(hl:a.Perm l)(c:b.Perm m):Dm a b:=⟨by rw[hl.length_eq,c.length_eq,h.len],λx=>by rw[hl.countP_eq,c.countP_eq];exact h.Xu x⟩
theorem Dm.at{l m:List Int}(h:Dm l m)(hl:l.Pairwise (· <= ·))(t:m.Pairwise (· <= ·))(i:Nat):l.getD i 0<=m.getD i 0:=by
 by_cases hi:i<l.length
 ·have a:i<m.length:=h.len▸hi
  rw[List.getD_eq_getElem?_getD,List.getD_eq_getElem?_getD,mo hi,mo a]
  show l[i]<=m[i]
  refine Int.not_lt.1 λu=>?_
  have c:=h.Xu m[i]
  have v:l.countP (λy=>decide (y<=m[i]))<=i:=by
   rw[<-List.take_append_drop i l,List.countP_append]
   have:(l.drop i).countP (λy=>decide (y<=m[i]))=0:=List.countP_eq_zero.2 λb f e=>by
    have e:=pT e
    obtain⟨j,o,d⟩:=List.mem_iff_getElem.1 f
    rw[List.getElem_drop]at d
    rw[List.length_drop]at o
    have:l[i]<=b:=by
     rw[<-d]
     rcases Nat.eq_zero_or_pos j with s|s
     ·subst s;exact Int.le_refl _
     ·exact List.pairwise_iff_getElem.1 hl i (i+j) hi O O
    omega
   have:=List.countP_le_length (p:=λy=>decide (y<=m[i])) (l:=l.take i)
   rw[List.length_take]at this
   omega
  have w:i+1<=m.countP (λy=>decide (y<=m[i])):=by
   have q:∀P:Int->Bool,m.countP P=(m.take (i+1)).countP P+(m.drop (i+1)).countP P:=λP=>by rw[<-List.countP_append,List.take_append_drop]
   rw[q]
   have:(m.take (i+1)).countP (λy=>decide (y<=m[i]))=(m.take (i+1)).length:=List.countP_eq_length.2 λb f=>by
    obtain⟨j,o,d⟩:=List.mem_iff_getElem.1 f
    rw[List.getElem_take]at d
    rw[List.length_take]at o
    rw[bn,<-d]
    by_cases e:j=i
    ·subst e;exact Int.le_refl _
    ·exact List.pairwise_iff_getElem.1 t j i O a O
   rw[List.length_take]at this
   omega
  omega
 ·have a :¬ i<m.length:=h.len▸hi
  rw[List.getD_eq_getElem?_getD,List.getD_eq_getElem?_getD,List.getElem?_eq_none (Nat.le_of_not_lt hi),List.getElem?_eq_none (Nat.le_of_not_lt a)]
  exact Int.le_refl _
theorem Om:∀{l m:List Int},l.length=m.length->(∀i,l.getD i 0<=m.getD i 0)->l.sum<=m.sum
 |[],[],_,_=>Int.le_refl _
 |a::l,b::m,h,k=>by
  have c:=Om (l:=l) (m:=m) (by simpa using h) λi=>k (i+1)
  have d:a<=b:=k 0
  rw[List.sum_cons,List.sum_cons];omega
theorem Dt{l m:List Int}(h:l.Perm m):l.sum=m.sum:=by
 induction h with
 |nil=>rfl
 |cons x _ a=>rw[List.sum_cons,List.sum_cons,a]
 |swap x y l=>simp only[List.sum_cons];omega
 |trans _ _ h1 b=>exact h1.trans b
theorem xq(W:Nat->Int):∀k,du W k=((List.range k).map W).sum
 |0=>rfl
 |k+1=>by
  show du W k+W k=_
  rw[List.range_succ,List.map_append,List.sum_append,xq W k];simp
theorem xu(W:Nat->Int):∀k j,j<k->W j<=cG W k
 |k+1,j,a=>by
  show W j<=if W k>cG W k then W k else cG W k
  by_cases e:j=k
  ·subst e;split<;>omega
  ·have:=xu W k j O
   split<;>omega
theorem Rm(q:Query)(k:Nat)(a b:Nat->Int):(jO q k a).2=(jO q k b).2:=by
 unfold jO
 repeat' split
 all_goals rfl
theorem u9(q:Query)(k:Nat)(a:Nat->Int):0<(jO q k a).2:=by
 unfold jO
 repeat' split
 all_goals first|exact Nat.one_pos|(show 0<k;omega)
theorem On(q:Query)(k:Nat){a d:Nat->Int}(h:Dm ((List.range k).map a) ((List.range k).map d)):(jO q k a).1<=(jO q k d).1:=by
 have up:∀i,bQ k a i<=bQ k d i:=(h.perm (gq k a).2 (gq k d).2).at (gq k a).1 (gq k d).1
 have m:du a k<=du d k:=by
  rw[xq,xq,<-Dt (gq k a).2,<-Dt (gq k d).2]
  refine Om ?_ up
  rw[(gq k a).2.length_eq,(gq k d).2.length_eq,h.len]
 unfold jO
 split
 ·exact dw _
 split
 ·exact dw _
 split
 ·show(du a k).toNat<=(du d k).toNat
  omega
 split
 ·show(du a k).toNat<=(du d k).toNat
  omega
 split
 ·have:cG a k<=cG d k:=by
   obtain⟨j,f,e⟩:=pH a k O
   rw[e]
   have c:=h.Xu (cG d k)
   have n:((List.range k).map d).countP (λy=>decide (y<=cG d k))=((List.range k).map d).length:=List.countP_eq_length.2 λb g=>by
    obtain⟨i,hi,rfl⟩:=List.mem_map.1 g
    exact bW (xu d k i (List.mem_range.1 hi))
   have o:=List.countP_le_length (p:=λy=>decide (y<=cG d k)) (l:=(List.range k).map a)
   have hl:=h.len
   have c3:((List.range k).map a).countP (λy=>decide (y<=cG d k))=((List.range k).map a).length:=O
   exact pT (List.countP_eq_length.1 c3 (a j) (List.mem_map.2 ⟨j,List.mem_range.2 f,rfl⟩))
  show(cG a k).toNat<=(cG d k).toNat
  omega
 ·have:=up (lC q.nu q.de k).toNat
  show(iD q.nu q.de k a).toNat<=(iD q.nu q.de k d).toNat
  unfold iD
  omega
end Go.Sx
end
section
set_option maxRecDepth 100000
namespace Go.Sx
open Go Go.Sort Go.Shelf Go.Proofs
def lY(x y:Nat×Nat):Prop:=x.1*y.2<=y.1*x.2
theorem lY.trans{x y a:Nat×Nat}(b:0<y.2)(d:lY x y)(f:lY y a):lY x a:=by
 unfold lY at*
 refine Nat.le_of_mul_le_mul_right (c:=y.2) ?_ b
 have a1:=Nat.mul_le_mul_right a.2 d
 have a2:=Nat.mul_le_mul_right x.2 f
 rw[Nat.mul_right_comm x.1 a.2 y.2,Nat.mul_right_comm a.1 x.2 y.2]
 rw[Nat.mul_right_comm y.1 x.2 a.2]at a1
 exact Nat.le_trans a1 a2
theorem lY.refl(x:Nat×Nat):lY x x:=dw _
def tv(x:List UInt8×List UInt8):Nat×Nat:=(ao x.1,ao x.2)
theorem xw{a b c d:Nat}:bw a b c d<=0↔lY (a,b) (c,d):=by
 unfold bw dU lY
 show _↔a*d<=c*b
 split
 ·omega
 ·split<;>omega
theorem FW{a b c d:Nat}:0<=bw a b c d↔lY (c,d) (a,b):=by
 unfold bw dU lY
 show _↔c*b<=a*d
 split
 ·omega
 ·split<;>omega
def pS(q:Query)(k:Nat)(W:Nat->Int):List UInt8×List UInt8:=(c8 q k W,da q k W)
theorem Rn{q:Query}{k j:Nat}{e i:Nat->Int}(h:lY (jO q k e) (jO q j i)):lY (tv (pS q k e)) (tv (pS q j i)):=by
 have key:∀{a b c d:Nat},0<b->0<d->a*d<=c*b->a/Nat.gcd a b*(d/Nat.gcd c d)<=c/Nat.gcd c d*(b/Nat.gcd a b):=λ{a b c d} r s h=>by
  have g1:0<Nat.gcd a b:=Nat.gcd_pos_of_pos_right a r
  have g2:0<Nat.gcd c d:=Nat.gcd_pos_of_pos_right c s
  have l:=Nat.div_mul_cancel (Nat.gcd_dvd_left a b)
  have m:=Nat.div_mul_cancel (Nat.gcd_dvd_right a b)
  have t:=Nat.div_mul_cancel (Nat.gcd_dvd_left c d)
  have u:=Nat.div_mul_cancel (Nat.gcd_dvd_right c d)
  generalize Nat.gcd a b=g at*
  generalize Nat.gcd c d=f at*
  generalize a/g=a' at*
  generalize b/g=n at*
  generalize c/f=o at*
  generalize d/f=p at*
  subst l m t u
  refine Nat.le_of_mul_le_mul_right (c:=g*f) ?_ (Nat.mul_pos g1 g2)
  have l:a'*g*(p*f)=a'*p*(g*f):=by ac_rfl
  have m:o*f*(n*g)=o*n*(g*f):=by ac_rfl
  rw[l,m]at h
  exact h
 unfold lY tv pS c8 da
 simp only[cq]
 exact key (u9 q k e) (u9 q j i) h
theorem Bh(q:Query)(k:Nat)(W:Nat->Int):0<(tv (pS q k W)).2:=by
 show 0<ao (bu _)
 rw[cq]
 exact Nat.div_pos (Nat.le_of_dvd (u9 q k W) (Nat.gcd_dvd_right _ _)) (Nat.gcd_pos_of_pos_right _ (u9 q k W))
theorem Oo{q:Query}{k:Nat}{a b:Nat->Int}(h:Dm ((List.range k).map a) ((List.range k).map b)):lY (tv (pS q k a)) (tv (pS q k b)):=by
 refine Rn ?_
 unfold lY
 rw[Rm q k a b]
 exact Nat.mul_le_mul_right _ (On q k h)
theorem Bi{R:Nat->List UInt8×List UInt8}(a:∀j,0<(tv (R j)).2):∀i j,j<=i->lY (tv (aS (λc=>decide (c<0)) R i)) (tv (R j))
 |0,j,d=>by rw[show j=0 by omega];exact lY.refl _
 |i+1,j,d=>by
  have b:=Bi a i
  show lY (tv (match decide (bw _ _ _ _<0)with|true=>_|false=>_)) _
  by_cases h:bw (ao (R (i+1)).1) (ao (R (i+1)).2) (ao (aS (λc=>decide (c<0)) R i).1) (ao (aS (λc=>decide (c<0)) R i).2)<0
  ·rw[bW h]
   by_cases e:j=i+1
   ·subst e;exact lY.refl _
   ·obtain⟨l,hl,el⟩:=eK (better:=λc=>decide (c<0)) (R:=R) i
    exact lY.trans (el▸a l) (xw.1 (Int.le_of_lt h)) (b j O)
  ·rw[nZ h]
   by_cases e:j=i+1
   ·subst e;exact FW.1 (Int.not_lt.1 h)
   ·exact b j O
theorem Bj{R:Nat->List UInt8×List UInt8}(a:∀j,0<(tv (R j)).2):∀i j,j<=i->lY (tv (R j)) (tv (aS (λc=>decide (c>0)) R i))
 |0,j,d=>by rw[show j=0 by omega];exact lY.refl _
 |i+1,j,d=>by
  have b:=Bj a i
  show lY _ (tv (match decide (bw _ _ _ _>0)with|true=>_|false=>_))
  by_cases h:bw (ao (R (i+1)).1) (ao (R (i+1)).2) (ao (aS (λc=>decide (c>0)) R i).1) (ao (aS (λc=>decide (c>0)) R i).2)>0
  ·rw[bW h]
   by_cases e:j=i+1
   ·subst e;exact lY.refl _
   ·obtain⟨l,hl,el⟩:=eK (better:=λc=>decide (c>0)) (R:=R) i
    exact lY.trans (el▸a l) (b j O) (FW.1 (Int.le_of_lt h))
  ·rw[nZ h]
   by_cases e:j=i+1
   ·subst e;exact xw.1 (Int.not_lt.1 h)
   ·exact b j O
theorem zk(a:Nat)(V:Nat->Int)(l:List Int)(i:Nat)(hi:i<=l.length):(List.range (a+i)).map (jB a V λj=>l.getD j 0)=(List.range a).map V++l.take i:=by
 rw[List.range_add,List.map_append,List.map_map]
 congr 1
 ·refine List.map_congr_left λj b=>?_
  show(bif Nat.blt j a then V j else _)=V j
  rw[eV (List.mem_range.1 b)];rfl
 ·refine List.ext_getElem zJ λj c d=>?_
  rw[List.length_map,List.length_range]at c
  simp only[List.getElem_map,List.getElem_range,Function.comp,List.getElem_take]
  show(bif Nat.blt (a+j) a then V (a+j)else l.getD (a+j-a) 0)=l[j]
  rw[js O,show a+j-a=j by omega,List.getD_eq_getElem?_getD,mo O];rfl
theorem nf(p:Nat->Bool)(W:Nat->Int)(k:Nat):(List.range (aP p k)).map (bS p W k)=((List.range k).filter p).map W:=by
 have:=wD (((List.range k).filter p).map W)
 rw[List.length_map]at this
 exact this
theorem JZ(l:List Int)(i:Nat)(hi:i<=l.length):(List.range i).map (λj=>l.getD j 0)=l.take i:=by
 have:=zk 0 (λ_=>0) l i hi
 rw[Nat.zero_add]at this
 exact this
theorem Oq(q:Query)(k:Nat)(W:Nat->Int)(C:Nat->Bool)(l:List Int)(i:Nat)(hi:i<=l.length):∃a:Nat->Int,bN q (aP C k) (bS C W k) (λj=>l.getD j 0) i=pS q (aP C k+i) a/\(List.range (aP C k+i)).map a=((List.range k).filter C).map W++l.take i:=by
 cases i with
 |zero=>exact⟨bS C W k,rfl,by rw[Nat.add_zero,nf,List.take_zero,List.append_nil]⟩
 |succ i=>exact⟨jB (aP C k) (bS C W k) λj=>l.getD j 0,rfl,by rw[zk _ _ _ _ hi,nf]⟩
theorem Hq(q:Query)(l:List Int)(i:Nat)(hi:i<=l.length):∃a:Nat->Int,br q (λj=>l.getD j 0) i=pS q i a/\(List.range i).map a=l.take i:=by
 cases i with
 |zero=>exact⟨λ_=>0,rfl,rfl⟩
 |succ i=>exact⟨λj=>l.getD j 0,rfl,JZ l _ hi⟩
theorem vb(q:Query)(a:Nat)(V M:Nat->Int):∀j,0<(tv (bN q a V M j)).2
 |0=>Bh _ _ _
 |_+1=>Bh _ _ _
theorem se(q:Query)(M:Nat->Int):∀j,0<(tv (br q M j)).2
 |0=>Bh _ _ _
 |_+1=>Bh _ _ _
theorem Hr{C:Nat->Bool}{k:Nat}(h:(List.range k).any C=false):(List.range k).filter C=[]/\((List.range k).filter λj=>!C j)=List.range k:=by
 rw[List.any_eq_false]at h
 exact⟨List.filter_eq_nil_iff.2 h,List.filter_eq_self.2 λa ha=>by simp[h a ha]⟩
theorem UN(q:Query)(k:Nat)(L T:Nat->Int)(C p:Nat->Bool)(s:∀j,j<k->C j=true->p j=true)(hL:∀j,j<k->p j=true->L j<=T j):
  lY (tv (eO q k L C)) (tv (pS q (aP p k) (bS p T k))):=by
 have f:∀j,j∈List.range k->C j=true->p j=true:=λj n=>s j (List.mem_range.1 n)
 have l:∀(M:List Int)(c:Nat->Int),M.Pairwise (· <= ·)->M.Perm (((List.range k).filter λj=>!C j).map L)->(List.range (aP p k)).map c=((List.range k).filter C).map L++M.take ((List.range k).countP λj=>p j && !C j)->lY (tv (pS q (aP p k) c)) (tv (pS q (aP p k) (bS p T k))):=λM c t r hA=>by
  refine Oo ?_
  rw[hA,nf]
  obtain⟨d1,_⟩:=tz (L:=L) (T:=T) (M:=M) f (by rw[r.length_eq,List.length_map])
  refine⟨d1,λx=>Ol f (λj n h e=>?_) (t.imp λ{a b} h e=>?_) r⟩
  ·have:=hL j (List.mem_range.1 n) h
   simp only[bn]at e⊢;omega
  ·simp only[bn]at e⊢;omega
 unfold eO
 cases u:(List.range k).any C with
 |true=>
  have up:=gq (aP (λi=>!C i) k) (bS (λi=>!C i) L k)
  rw[nf]at up
  obtain⟨d1,g⟩:=tz (L:=L) (T:=T) (M:=dp (ltOf Lib.compareInt) (aP (λi=>!C i) k) (bS (λi=>!C i) L k)) f (by rw[up.2.length_eq,List.length_map])
  have hl:=up.2.length_eq
  rw[List.length_map]at hl
  rw[List.length_append,List.length_map,List.length_take,List.length_map,Nat.min_eq_left g]at d1
  obtain⟨c,a1,a2⟩:=Oq q k L C _ _ g
  have m:aP C k+((List.range k).countP λj=>p j && !C j)=aP p k:=d1
  rw[m]at a1 a2
  refine lY.trans ?_ (Bi (vb _ _ _ _) _ _ (hl▸g:_<=aP (λi=>!C i) k)) ?_
  ·exact vb _ _ _ _ _
  ·refine Eq.subst (motive:=λd=>lY (tv d) _) a1.symm (l _ c up.1 up.2 a2)
 |false=>
  have up:=gq k L
  obtain⟨n1,o⟩:=Hr u
  obtain⟨d1,g⟩:=tz (L:=L) (T:=T) (M:=dp (ltOf Lib.compareInt) k L) f (by rw[up.2.length_eq,o,List.length_map])
  have hl:=up.2.length_eq
  rw[List.length_map,List.length_range]at hl
  rw[n1,List.map_nil,List.nil_append,List.length_take,List.length_map,Nat.min_eq_left g]at d1
  obtain⟨c,a1,a2⟩:=Hq q _ _ g
  have m:((List.range k).countP λj=>p j && !C j)=aP p k:=d1
  refine lY.trans ?_ (Bi (se _ _) _ _ (hl▸g:_<=k)) ?_
  ·exact se _ _ _
  ·refine Eq.subst (motive:=λd=>lY (tv d) _) a1.symm ?_
   rw[<-o]at up
   rw[m]at a2⊢
   exact l _ c up.1 (by have:=up.2;rwa[o]at this⊢) (by rw[n1,m];exact a2)
end Go.Sx
end
section
set_option maxRecDepth 100000
namespace Go.Sx
open Go Go.Sort Go.Shelf Go.Proofs
theorem Ro(q:Query)(k:Nat)(G T:Nat->Int)(C p:Nat->Bool)(s:∀j,j<k->C j=true->p j=true)(hG:∀j,j<k->p j=true->T j<=G j):
  lY (tv (pS q (aP p k) (bS p T k))) (tv (dQ q k G C)):=by
 have f:∀j,j∈List.range k->C j=true->p j=true:=λj n=>s j (List.mem_range.1 n)
 have l:∀(M:List Int)(c:Nat->Int),M.Pairwise (λx y=>y<=x)->M.Perm (((List.range k).filter λj=>!C j).map G)->(List.range (aP p k)).map c=((List.range k).filter C).map G++M.take ((List.range k).countP λj=>p j && !C j)->lY (tv (pS q (aP p k) (bS p T k))) (tv (pS q (aP p k) c)):=λM c t o hA=>by
  refine Oo ?_
  rw[hA,nf]
  obtain⟨d1,_⟩:=tz (L:=G) (T:=T) (M:=M) f (by rw[o.length_eq,List.length_map])
  refine Dm.up d1.symm λx=>Ol f (λj n h e=>?_) (t.imp λ{a b} h e=>?_) o
  ·have:=hG j (List.mem_range.1 n) h
   simp only[bn]at e⊢;omega
  ·simp only[bn]at e⊢;omega
 unfold dQ
 cases u:(List.range k).any C with
 |true=>
  have up:=sd (aP (λi=>!C i) k) (bS (λi=>!C i) G k)
  rw[nf]at up
  obtain⟨d1,g⟩:=tz (L:=G) (T:=T) (M:=dp (ltOf pP) (aP (λi=>!C i) k) (bS (λi=>!C i) G k)) f (by rw[up.2.length_eq,List.length_map])
  have hl:=up.2.length_eq
  rw[List.length_map]at hl
  rw[List.length_append,List.length_map,List.length_take,List.length_map,Nat.min_eq_left g]at d1
  obtain⟨c,a1,a2⟩:=Oq q k G C _ _ g
  have m:aP C k+((List.range k).countP λj=>p j && !C j)=aP p k:=d1
  rw[m]at a1 a2
  refine lY.trans ?_ ?_ (Bj (vb _ _ _ _) _ _ (hl▸g:_<=aP (λi=>!C i) k))
  ·exact vb _ _ _ _ _
  ·refine Eq.subst (motive:=λd=>lY _ (tv d)) a1.symm (l _ c up.1 up.2 a2)
 |false=>
  have up:=sd k G
  obtain⟨n1,r⟩:=Hr u
  obtain⟨d1,g⟩:=tz (L:=G) (T:=T) (M:=dp (ltOf pP) k G) f (by rw[up.2.length_eq,r,List.length_map])
  have hl:=up.2.length_eq
  rw[List.length_map,List.length_range]at hl
  rw[n1,List.map_nil,List.nil_append,List.length_take,List.length_map,Nat.min_eq_left g]at d1
  obtain⟨c,a1,a2⟩:=Hq q _ _ g
  have m:((List.range k).countP λj=>p j && !C j)=aP p k:=d1
  refine lY.trans ?_ ?_ (Bj (se _ _) _ _ (hl▸g:_<=k))
  ·exact se _ _ _
  ·refine Eq.subst (motive:=λd=>lY _ (tv d)) a1.symm ?_
   rw[m]at a2⊢
   exact l _ c up.1 (by have:=up.2;rwa[r]) (by rw[n1,m];exact a2)
theorem Ot(q:Query)(x:ay):∀j,x.l<=(mf q x j).lo/\(mf q x j).hi<=x.h
 |0=>⟨Int.le_refl _,Int.le_refl _⟩
 |j+1=>by
  obtain⟨a,b⟩:=Ot q x j
  show x.l<=(j9 q x j (mf q x j)).lo/\(j9 q x j (mf q x j)).hi<=x.h
  simp only[j9]
  constructor
  ·repeat' split
   all_goals omega
  ·repeat' split
   all_goals omega
theorem Ou(x:ay)(f d e:Int)(h:f≠8):gJ x f d=gJ x f e:=by
 unfold gJ
 simp only[h,if_false]
theorem holds_of{q:Query}{x:ay}{d:Int}(h:∀k,k<q.nw->gG q x d k=true):dV q x d=true:=List.all_eq_true.2 λk a=>h k (List.mem_range.1 a)
theorem FX{q:Query}{x:ay}{d:Int}(hq:eU q=true)(hx:bB x=true)(c:jA q x=true)(p:x.l<=d)(r:d<=x.h):qS q x d=true:=by
 obtain⟨_,t⟩:=fQ hq
 have g:G6 q x q.nw (dC q x):=NF q x (λj u=>(t j u).2.1) q.nw (dw _)
 have b:x.l<=(dC q x).lo/\(dC q x).hi<=x.h:=Ot q x q.nw
 unfold jA lT fy rL at c
 simp only[bf,bn]at c
 obtain⟨i,v⟩:=c
 generalize dC q x=s at g b i v
 have w:((List.range s.n).filter λj=>decide (s.lo<=s.K j)&&decide (s.K j<=s.hi)).length=0:=O
 have f:∀m,m<s.n->s.K m≠d:=λm y e=>by
  have:=List.length_eq_zero_iff.1 w
  have:=(List.filter_eq_nil_iff.1 this) m (List.mem_range.2 y)
  simp only[bf,bn]at this
  omega
 obtain⟨_,_,D⟩:=g.own d O O f
 unfold qS xG
 simp only[bf,bn]
 refine⟨⟨p,r⟩,holds_of λk o=>?_⟩
 unfold gG
 by_cases a:q.C k 0=8
 ·rw[show gJ x (q.C k 0) d=d by rw[a];rfl];exact D k o a
 ·rw[Ou x _ d 0 a];exact g.other i k o a
theorem uz{q:Query}{x:ay}{d e:Int}(hq:eU q=true)(h:qS q x d=true)(j:xG x e=true)(a:qS q x e=false)(l:d=e+1∨e=d+1):∃k,k<q.nw/\q.C k 2-1<=d/\d<=q.C k 2+1:=by
 obtain⟨_,m⟩:=fQ hq
 unfold qS at h a
 rw[j,Bool.true_and]at a
 rw[bf]at h
 have a:∃k,k<q.nw/\gG q x e k=false:=Classical.byContradiction λc=>by
  rw[holds_of λk g=>by
   cases b:gG q x e k with
   |true=>rfl
   |false=>exact absurd ⟨k,g,b⟩ c]at a
  cases a
 obtain⟨k,g,b⟩:=a
 have f:gG q x d k=true:=List.all_eq_true.1 h.2 k (List.mem_range.2 g)
 refine⟨k,g,?_⟩
 unfold gG at b f
 by_cases i:q.C k 0=8
 ·rw[show gJ x (q.C k 0) e=e by rw[i];rfl]at b
  rw[show gJ x (q.C k 0) d=d by rw[i];rfl]at f
  unfold Nn at b f
  rw[iK]at b
  rw[bn]at f
  omega
 ·rw[Ou x _ e d i,f]at b
  cases b
theorem vc{q:Query}{x:ay}{d:Int}(h:qS q x d=true)(i:Nat)(hi:i<q.nw+2)(b:cY q x i 2-1<=d)(c:d<=cY q x i 2+1):∃m,m<jQ q x/\fT q x m=d:=by
 have a:d∈NH q x (3*(q.nw+2)):=by
  refine List.mem_filter.2 ⟨List.mem_map.2 ⟨3*i+(d-(cY q x i 2-1)).toNat,List.mem_range.2 O,?_⟩,h⟩
  rw[rU q x i _ O]
  omega
 obtain⟨m,a,e⟩:=List.mem_iff_getElem.1 a
 exact⟨m,a,by unfold fT;rw[List.getD_eq_getElem?_getD,mo a];exact e⟩
theorem Ov{q:Query}{x:ay}(hq:eU q=true):∀(n:Nat)(d:Int),d=x.l+n->qS q x d=true->∃m,m<jQ q x/\fT q x m<=d
 |0,d,e,h=>by
  obtain⟨m,a,b⟩:=vc h q.nw O (by unfold cY;simp;omega) (by unfold cY;simp;omega)
  exact⟨m,a,O⟩
 |n+1,d,e,h=>by
  cases hp:qS q x (d-1)with
  |true=>
   obtain⟨m,a,b⟩:=Ov hq n (d-1) O hp
   exact⟨m,a,O⟩
  |false=>
   have hi:xG x (d-1)=true:=by
    unfold qS at h
    unfold xG at h⊢
    simp only[bf,bn]at h⊢
    omega
   obtain⟨k,c,f,g⟩:=uz hq h hi hp O
   obtain⟨m,a,b⟩:=vc h k O (by unfold cY;rw[if_pos c];omega) (by unfold cY;rw[if_pos c];omega)
   exact⟨m,a,O⟩
theorem Hs{q:Query}{x:ay}(hq:eU q=true):∀(n:Nat)(d:Int),x.h=d+n->qS q x d=true->∃m,m<jQ q x/\d<=fT q x m
 |0,d,e,h=>by
  obtain⟨m,a,b⟩:=vc h (q.nw+1) O (by unfold cY;simp;omega) (by unfold cY;simp;omega)
  exact⟨m,a,O⟩
 |n+1,d,e,h=>by
  cases hp:qS q x (d+1)with
  |true=>
   obtain⟨m,a,b⟩:=Hs hq n (d+1) O hp
   exact⟨m,a,O⟩
  |false=>
   have hi:xG x (d+1)=true:=by
    unfold qS at h
    unfold xG at h⊢
    simp only[bf,bn]at h⊢
    omega
   obtain⟨k,c,f,g⟩:=uz hq h hi hp O
   obtain⟨m,a,b⟩:=vc h k O (by unfold cY;rw[if_pos c];omega) (by unfold cY;rw[if_pos c];omega)
   exact⟨m,a,O⟩
theorem Du(W:Nat->Int):∀k j,j<k->jc W k<=W j
 |k+1,j,a=>by
  show(if W k<jc W k then W k else jc W k)<=W j
  by_cases e:j=k
  ·subst e;split<;>omega
  ·have:=Du W k j O
   split<;>omega
theorem Ow{q:Query}{x:ay}{d:Int}(hq:eU q=true)(b:gk q x=true)(h:qS q x d=true):kR q x<=(if q.fl=8 then d else kR q x)/\(if q.fl=8 then d else kR q x)<=lJ q x:=by
 have hi:x.l<=d/\d<=x.h:=by
  unfold qS xG at h
  simp only[bf,bn]at h
  omega
 have ha:(q.a=1/\q.fl=0)∨(q.a≠1/\(q.fl=7∨q.fl=8)):=by
  unfold eU EV at hq
  simp only[bf,Bool.or_eq_true,bn]at hq
  omega
 unfold kR lJ
 rw[b]
 show(if q.a=1 then 1 else _)<=(if q.fl=8 then d else if q.a=1 then 1 else _)/\_<=(if q.a=1 then 1 else _)
 rcases ha with⟨a1,a2⟩|⟨a1,a2⟩
 ·rw[if_pos a1,if_neg (O:¬ q.fl=8),if_pos a1];omega
 ·rw[if_neg a1,if_neg a1]
  rcases a2 with a2|a2
  ·rw[if_pos a2,if_neg (O:¬ q.fl=8),if_pos a2];omega
  ·rw[if_neg (O:¬ q.fl=7),if_pos a2,if_neg (O:¬ q.fl=7)]
   cases jA q x with
   |true=>exact hi
   |false=>
    obtain⟨m,c,e⟩:=Ov hq (d-x.l).toNat d O h
    obtain⟨n,n1,f⟩:=Hs hq (x.h-d).toNat d O h
    exact⟨Int.le_trans (Du _ _ _ c) e,Int.le_trans f (xu _ _ _ n1)⟩
theorem Rp{q:Query}{k:Nat}{F:Nat->ay}{D:Nat->Int}{a:bj}(hq:eU q=true)(l:∀j,j<k->bB (F j)=true)(n:r9 k F D)(e:oc q F k a):
  lY (tv (eO q a.m a.L a.C)) (tv (pS q (yd q F D a) (uq q F D a)))/\lY (tv (pS q (yd q F D a) (uq q F D a))) (tv (dQ q a.m a.G a.C)):=by
 have g:∀j,j<a.m->a.C j=true->uG q F D a.T j=true:=λj b d=>by
  obtain⟨f,f1,o,h,_,_,f6⟩:=e j b
  rw[f6]at d
  unfold Br at d
  rw[bf]at d
  obtain⟨d1,p⟩:=n f f1
  unfold uG
  rw[show(a.T j).toNat=f by omega]
  exact FX hq (l f f1) d.2 d1 p
 have i:∀j,j<a.m->uG q F D a.T j=true->a.L j<=Rb q D a.L a.T j/\Rb q D a.L a.T j<=a.G j:=λj b c=>by
  obtain⟨f,f1,o,h,r,f5,_⟩:=e j b
  unfold uG at c
  unfold Rb
  rw[show(a.T j).toNat=f by omega]at c⊢
  rw[r,f5]
  exact Ow hq h c
 exact⟨UN q a.m a.L _ a.C _ g λj b c=>(i j b c).1,Ro q a.m a.G _ a.C _ g λj b c=>(i j b c).2⟩
end Go.Sx
end
section
set_option maxRecDepth 100000
namespace Go.Sx
open Go
theorem U6(q:Query)(x:ay)(d:Int)(g:x.l<=d)(i:d<=x.h):∀j,(∀k,k<j->gG q x d k=true)->(mf q x j).c=true/\(mf q x j).lo<=d/\d<=(mf q x j).hi/\∀m,m<(mf q x j).n->(mf q x j).K m≠d
 |0,_=>⟨rfl,g,i,λm a=>absurd a (lZ _)⟩
 |j+1,h=>by
  obtain⟨a1,a2,o,a4⟩:=U6 q x d g i j λk t=>h k O
  have f:=h j (Nat.lt_succ_self j)
  show(j9 q x j (mf q x j)).c=true/\(j9 q x j (mf q x j)).lo<=d/\d<=(j9 q x j (mf q x j)).hi/\∀m,m<(j9 q x j (mf q x j)).n->(j9 q x j (mf q x j)).K m≠d
  generalize mf q x j=s at a1 a2 o a4
  unfold gG at f
  simp only[j9]
  by_cases b:q.C j 0=8
  ·rw[show gJ x (q.C j 0) d=d by rw[b];rfl]at f
   unfold Nn at f
   rw[bn]at f
   refine⟨by rw[a1,bW b];rfl,?_,?_,λm a=>?_⟩
   ·split
    ·split<;>omega
    ·omega
   ·split
    ·split<;>omega
    ·split
     ·split<;>omega
     ·omega
   ·by_cases p:q.C j 0=8/\q.C j 1=2/\gv (q.C j 2) s.K s.n=false
    ·rw[if_pos p]at a⊢
     by_cases e:m=s.n
     ·subst e
      simp only[dY,ni,cond_true]
      omega
     ·have r:Nat.beq m s.n=false:=by
       cases h:Nat.beq m s.n with
       |false=>rfl
       |true=>exact absurd (dE h) e
      simp only[dY,r,cond_false]
      exact a4 m O
    ·rw[if_neg p]at a⊢
     exact a4 m a
  ·rw[Ou x _ d 0 b]at f
   refine⟨by rw[a1,f,Bool.or_true];rfl,?_,?_,λm a=>?_⟩
   ·rw[if_neg λe=>b e.1];exact a2
   ·rw[if_neg λe=>b e.1,if_neg λe=>b e.1];exact o
   ·rw[if_neg λe=>b e.1]at a⊢
    exact a4 m a
theorem V1(q:Query)(x:ay):∀j,∀m a,m<(mf q x j).n->a<(mf q x j).n->m≠a->(mf q x j).K m≠(mf q x j).K a
 |0=>λm a f=>absurd f (lZ _)
 |j+1=>by
  have k:=V1 q x j
  show ∀m a,m<(j9 q x j (mf q x j)).n->a<(j9 q x j (mf q x j)).n->m≠a->(j9 q x j (mf q x j)).K m≠(j9 q x j (mf q x j)).K a
  generalize mf q x j=s at k
  intro m a f b g
  simp only[j9]at f b⊢
  by_cases l:q.C j 0=8/\q.C j 1=2/\gv (q.C j 2) s.K s.n=false
  ·rw[if_pos l]at f b⊢
   have no:∀i,i<s.n->s.K i≠q.C j 2:=λi hi e=>by
    have:=NE.2 ⟨i,hi,e⟩
    rw[l.2.2]at this;cases this
   have d:∀i,i<s.n->dY s.n s.K (q.C j 2) i=s.K i:=λi hi=>by
    have o:Nat.beq i s.n=false:=by
     cases h:Nat.beq i s.n with
     |false=>rfl
     |true=>have:=dE h;omega
    simp only[dY,o,cond_false]
   have last:dY s.n s.K (q.C j 2) s.n=q.C j 2:=by simp only[dY,ni,cond_true]
   by_cases e:m=s.n
   ·subst e
    rw[last,d a O]
    exactλc=>no a O c.symm
   ·by_cases p:a=s.n
    ·subst p
     rw[last,d m O]
     exact no m O
    ·rw[d m O,d a O]
     exact k m a O O g
  ·rw[if_neg l]at f b⊢
   exact k m a f b g
theorem RO{K:Nat->Int}{n:Nat}(f:∀m d,m<n->d<n->m≠d->K m≠K d)(lo:Int):∀w:Nat,((List.range n).filter λm=>decide (lo<=K m)&&decide (K m<lo+w)).length<=w
 |0=>by
  rw[List.filter_eq_nil_iff.2 λm _=>zA];exact dw _
 |w+1=>by
  have g:=RO f lo w
  rw[<-List.countP_eq_length_filter]at g⊢
  rw[tx _ λm=>decide (K m<lo+w)]
  have p:(List.range n).countP (λm=>(decide (lo<=K m)&&decide (K m<lo+(w+1:Nat)))&&decide (K m<lo+w))<=(List.range n).countP λm=>decide (lo<=K m)&&decide (K m<lo+w):=List.countP_mono_left λm _ h=>by
   simp only[bf,bn]at h⊢
   exact⟨h.1.1,h.2⟩
  have q:(List.range n).countP (λm=>(decide (lo<=K m)&&decide (K m<lo+(w+1:Nat)))&& !decide (K m<lo+w))<=1:=by
   rw[List.countP_eq_length_filter]
   generalize hl:(List.range n).filter (λm=>(decide (lo<=K m)&&decide (K m<lo+(w+1:Nat)))&& !decide (K m<lo+w))=l
   have c:∀a,a∈l->a<n/\K a=lo+w:=λa ha=>by
    rw[<-hl]at ha
    obtain⟨i,j⟩:=List.mem_filter.1 ha
    simp only[bf,Bool.not_eq_true',bn,iK]at j
    exact⟨List.mem_range.1 i,O⟩
   have e:l.Pairwise (· < ·):=hl▸List.Pairwise.filter _ List.pairwise_lt_range
   match l,c,e with
   |[],_,_=>exact Nat.zero_le _
   |[_],_,_=>exact dw _
   |a::b::l,c,e=>
    have r:a<b:=(List.pairwise_cons.1 e).1 b zA
    obtain⟨a1,a2⟩:=c a zA
    obtain⟨k,o⟩:=c b zA
    exact absurd (a2.trans o.symm) (f a b a1 k O)
  omega
theorem Il{q:Query}{x:ay}{d:Int}:qS q x d=true↔(x.l<=d/\d<=x.h)/\∀k,k<q.nw->gG q x d k=true:=by
 unfold qS xG dV
 simp only[bf,bn,List.all_eq_true,List.mem_range,ge_iff_le]
theorem Ke{q:Query}{x:ay}(hq:eU q=true):gk q x=true↔ ∃d,qS q x d=true:=by
 constructor
 ·intro h
  obtain⟨d,a,_⟩:=QN hq h
  exact⟨d,a⟩
 ·rintro⟨d,h⟩
  obtain⟨⟨a,c⟩,f⟩:=Il.1 h
  obtain⟨a1,a2,g,a4⟩:=U6 q x d a c q.nw f
  have b:=V1 q x q.nw
  unfold gk lT fy rL
  have e:mf q x q.nw=dC q x:=rfl
  rw[e]at a1 a2 g a4 b
  generalize dC q x=s at*
  rw[a1,Bool.true_and,bn]
  have f1:=RO b s.lo (d-s.lo).toNat
  have i:=RO b (d+1) (s.hi-d).toNat
  rw[<-List.countP_eq_length_filter]at f1 i⊢
  rw[tx _ λm=>decide (s.K m<s.lo+(d-s.lo).toNat)]
  have k:(List.range s.n).countP (λm=>(decide (s.lo<=s.K m)&&decide (s.K m<=s.hi))&&decide (s.K m<s.lo+(d-s.lo).toNat))<=(List.range s.n).countP λm=>decide (s.lo<=s.K m)&&decide (s.K m<s.lo+(d-s.lo).toNat):=List.countP_mono_left λm _ h=>by
   simp only[bf,bn]at h⊢
   exact⟨h.1.1,h.2⟩
  have l:(List.range s.n).countP (λm=>(decide (s.lo<=s.K m)&&decide (s.K m<=s.hi))&& !decide (s.K m<s.lo+(d-s.lo).toNat))<=(List.range s.n).countP λm=>decide (d+1<=s.K m)&&decide (s.K m<d+1+(s.hi-d).toNat):=List.countP_mono_left λm j h=>by
   have:=a4 m (List.mem_range.1 j)
   simp only[bf,Bool.not_eq_true',bn,iK]at h⊢
   omega
  omega
theorem K4{q:Query}{x:ay}(hq:eU q=true)(hx:bB x=true):jA q x=true↔ ∀d,x.l<=d->d<=x.h->qS q x d=true:=by
 constructor
 ·exactλh d b e=>FX hq hx h b e
 ·intro h
  have f:x.l<=x.h:=((jx hx).1).2.1
  have a:∀d,x.l<=d->d<=x.h->(dC q x).c=true/\(dC q x).lo<=d/\d<=(dC q x).hi/\∀m,m<(dC q x).n->(dC q x).K m≠d:=λd b e=>U6 q x d b e q.nw (Il.1 (h d b e)).2
  obtain⟨i,k⟩:x.l<=(dC q x).lo/\(dC q x).hi<=x.h:=Ot q x q.nw
  unfold jA lT fy rL
  generalize dC q x=s at*
  obtain⟨l1,l2,o,_⟩:=a x.l (Int.le_refl _) f
  obtain⟨_,p,r,_⟩:=a x.h f (Int.le_refl _)
  rw[l1,Bool.true_and,bn]
  have:(List.range s.n).filter (λj=>decide (s.lo<=s.K j)&&decide (s.K j<=s.hi))=[]:=List.filter_eq_nil_iff.2 λm g c=>by
   simp only[bf,bn]at c
   exact(a (s.K m) O O).2.2.2 m (List.mem_range.1 g) A
  rw[this]
  show s.hi-s.lo+1-((0:Nat):Int)=_
  omega
end Go.Sx
end
section
set_option maxRecDepth 1000000
namespace Go.Sx
open Go
noncomputable def hL:AH:={n:=27,t:=Tr.ofList [(6,.cells dz (.ex 20))]}
end Go.Sx
end
section
set_option maxRecDepth 1000000
namespace Go.Sx
open Go
structure Fits (g pn tn:Nat) (KA KB:Nat->Nat->Int) (SA SB:Nat->Nat->List UInt8) (a:Nat->Nat):Prop where
 lt:∀i,i<tn->a i<pn
 mono:∀i,i+1<tn->a i<=a (i+1)
 key:∀i,i<tn->A9 g (KA (a i)) (KB i)=true
 YM:∀i b,i<tn->b<a i->A9 g (KA b) (KB i)=false
 one:∀i,i<tn->SB i 2=SB i 0/\SB i 3=SB i 1
 ra:∀i,i<pn->bJ (SA i 0) (SA i 1)=true/\bJ (SA i 2) (SA i 3)=true
 rb:∀i,i<tn->bJ (SB i 0) (SB i 1)=true
 lo:∀i,i<tn->bw (ao (SA (a i) 0)) (ao (SA (a i) 1)) (ao (SB i 0)) (ao (SB i 1))<=0
 hi:∀i,i<tn->0<=bw (ao (SA (a i) 2)) (ao (SA (a i) 3)) (ao (SB i 0)) (ao (SB i 1))
end Go.Sx
end
