/- The proof of a statement of the seat, part 33. -/
import Derived.Test.YtoijalagmmgkbaaGreatDoorX29
import Derived.Test.YtoijalagmmgkbaaGreatDoorX32
import Derived.Test.YtoijalagmmgkbaaGreatDoorX24
import Derived.Test.YtoijalagmmgkbaaGreatDoorX20
import Derived.Test.YtoijalagmmgkbaaGreatDoorX14
import Derived.Test.YtoijalagmmgkbaaGreatDoorX15
set_option linter.all false
set_option linter.defProp false
set_option maxRecDepth 1000000
namespace Go.Sx
open Go
open Nat renaming blt->B,beq->d_,zero_le->l_,ble->t_,below->z_
open Decidable renaming decide->z
open Go.IntKind renaming i64->a_
open List renaming range->b_,drop->f_,take->h_,all->i_,ne_nil_of_mem->n_,length_append->o_,all_eq_true->p_,length->v_
open Int renaming ofNat->c_,toNat->q_
open AV renaming int->e_,str->k_,az->r_,ptr->s_,bool->w_,any->y_,bD->B_,addr->C_
open Classical renaming byContradiction->g_,axiomOfChoice->A_
open Option renaming some->m_,none->u_
noncomputable section
def wV(q:Query):Query:=⟨q.nw,bG (au q.C),q.ng,λj=>q.G j,q.a,q.fl,q.nu,q.de,q.top⟩
def wW(q)(x):∀j,mf (wV q) x j=mf q x j
 |0=>rfl
 |j+1=>by
  show j9 (wV q) x j (mf (wV q) x j)=j9 q x j (mf q x j)
  rw[wW q x j];rfl
def Jy(q)(x):gk (wV q) x=gk q x:=by
 unfold gk lT
 have:dC (wV q) x=dC q x:=wW q x q.nw
 rw[this]
def C2{n p}(h:∀i,p i=true):i_ (List.range.loop n []) p=true:=Y
def Jz(q)(x):jA (wV q) x=jA q x:=by
 unfold jA lT
 have:dC (wV q) x=dC q x:=wW q x q.nw
 rw[this]
structure G6 (e:Query) (x:ay) (b:Nat) (s:Ug):Prop where
 other:s.c=true->∀k,k<b->e.C k 0≠8->Nn (e.C k 1) (gJ x (e.C k 0) 0) (e.C k 2)=true
 own:∀a,s.lo<=a->a<=s.hi->(∀m,m<s.n->s.K m≠a)->x.l<=a/\a<=x.h/\∀k,k<b->e.C k 0=8->Nn (e.C k 1) a (e.C k 2)=true
 low:s.lo=x.l∨∃k,k<b/\s.lo=e.C k 2
 out:∀m,m<s.n->∃k,k<b/\s.K m=e.C k 2
def NE{v K n}:gv v K n=true↔ ∃m,m<n/\K m=v:=by
 unfold gv
 grind
def NF(q)(x)(w:∀j,j<q.nw->1<=q.C j 1/\q.C j 1<=4):∀j,j<=q.nw->G6 q x j (mf q x j)
 |0,_=>⟨O,λd f o _=>⟨f,o,O⟩,.inl A,λm c=>absurd c (lZ _)⟩
 |j+1,F=>by
  have g:=NF q x w j O
  have G:=w j O
  show G6 q x (j+1) (j9 q x j (mf q x j))
  generalize mf q x j=s at g
  have i:∀(b:Prop) [Decidable b],(b->gv (q.C j 2) s.K s.n=false)->∀m,m<(if b then s.n+1 else s.n)->(b/\m=s.n/\(if b then dY s.n s.K (q.C j 2)else s.K) m=q.C j 2)∨(m<s.n/\(if b then dY s.n s.K (q.C j 2)else s.K) m=s.K m):=by
   intro b _ _ m c
   by_cases a:b
   ·simp only[a,if_true]at c⊢
    by_cases e:m=s.n
    ·exact .inl ⟨trivial,e,by subst e;simp[dY]⟩
    ·refine .inr ⟨O,?_⟩
     have:d_ m s.n=false:=by
      cases h:d_ m s.n with
      |false=>rfl
      |true=>simp_all
     simp[dY,this]
   ·grind
  refine⟨λh k p y=>?_,λd f o r=>?_,?_,λm c=>?_⟩
  ·simp only[j9,bf,Bool.or_eq_true,bn]at h
   by_cases e:k=j
   grind
   ·exact g.other h.1 k O y
  ·simp only[j9]at f o r
   have t:s.lo<=d:=by
    revert f;split
    ·split<;>omega
    ·omega
   have u:d<=s.hi:=by
    revert o;split
    ·split<;>omega
    ·omega
   have D:∀m,m<s.n->s.K m≠d:=λm c=>by
    by_cases a:q.C j 0=8/\q.C j 1=2/\gv (q.C j 2) s.K s.n=false
    ·have:=r m (by rw[if_pos a];omega)
     rw[if_pos a]at this
     have e:d_ m s.n=false:=by
      cases h:d_ m s.n with
      |false=>rfl
      |true=>simp_all
     simpa [dY,e]using this
    grind
   obtain⟨a1,a2,H⟩:=g.own d t u D
   refine⟨a1,a2,λk p y=>?_⟩
   by_cases e:k=j
   ·subst e
    unfold Nn
    rw[bn]
    have v:q.C k 1=1∨q.C k 1=2∨q.C k 1=3∨q.C k 1=4:=O
    rcases v with h|h|h|h
    omega
    ·right;left
     refine⟨h,λe=>?_⟩
     by_cases a:gv (q.C k 2) s.K s.n=true
     ·obtain⟨m,c,E⟩:=NE.1 a
      grind
     ·have a:q.C k 0=8/\q.C k 1=2/\gv (q.C k 2) s.K s.n=false:=by grind
      have:=r s.n (by rw[if_pos a];omega)
      rw[if_pos a]at this
      exact this (by simp[dY,e])
    all_goals omega
   grind
  ·simp only[j9]
   have old:s.lo=x.l∨∃k,k<j+1/\s.lo=q.C k 2:=g.low.imp id λ⟨k,p,e⟩=>⟨k,O,e⟩
   grind
  ·simp only[j9]at c⊢
   rcases i (q.C j 0=8/\q.C j 1=2/\gv (q.C j 2) s.K s.n=false) (λh=>h.2.2) m c with⟨_,_,e⟩|⟨f,e⟩
   grind
   ·obtain⟨k,p,E⟩:=g.out m f
    grind
def G7(lo:Int)(K:Nat->Int)(S:List Nat):∀n:Nat,(∀d,lo<=d->d<lo+n->∃m,m∈S/\K m=d)->n<=(S.filter λm=>z (lo<=K m)&&z (K m<lo+n)).length
 |0,_=>l_ _
 |n+1,h=>by
  have b:=G7 lo K S n Y
  obtain⟨m,c,e⟩:=h (lo+n) O O
  have split:∀S:List Nat,(S.filter λm=>z (lo<=K m)&&z (K m<lo+(n+1:Nat))).length=(S.filter λm=>z (lo<=K m)&&z (K m<lo+n)).length+(S.filter λm=>z (K m=lo+n)).length:=by
   intro S
   induction S with
   |nil=>rfl
   |cons a S b=>
    grind
  rw[split S]
  have:0<(S.filter λm=>z (K m=lo+n)).length:=List.length_pos_iff.2 (n_ (List.mem_filter.2 ⟨c,by simp[e]⟩))
  omega
def QN{q x}(v:eU q=true)(c:gk q x=true):∃d,(xG x d&&dV q x d)=true/\(d=x.l∨∃k,k<q.nw/\(d=q.C k 2∨d=q.C k 2+1)):=by
 obtain⟨_,E⟩:=fQ v
 have g:=NF q x ZD q.nw (dw _)
 unfold gk lT fy rL at c
 simp only[bf,bn]at c
 obtain⟨p,w⟩:=c
 have g:G6 q x q.nw (dC q x):=g
 generalize dC q x=s at g p w
 apply g_
 intro f
 have key:∀n:Nat,∀d,s.lo<=d->d<s.lo+n->d<=s.hi->∃m,m<s.n/\s.K m=d:=by
  intro n
  induction n with
  |zero=>intro d i y;omega
  |succ n r=>
   intro d i y t
   by_cases e:d<s.lo+n
   ·exact r d i e t
   apply g_
   intro a
   have a:∀m,m<s.n->s.K m≠d:=ZD
   obtain⟨a1,a2,F⟩:=g.own d i t a
   refine f ⟨d,?_,?_⟩
   ·simp only[bf]
    refine⟨by unfold xG;grind,?_⟩
    unfold dV
    rw[p_]
    intro k b
    have b:=List.mem_range.1 b
    unfold gG
    by_cases o:q.C k 0=8
    ·have:gJ x (q.C k 0) d=d:=by rw[o];rfl
     grind
    ·have:gJ x (q.C k 0) d=gJ x (q.C k 0) 0:=by
      unfold gJ
      simp only[o,if_false]
     rw[this];exact g.other p k b o
   ·by_cases G:n=0
    ·have:d=s.lo:=by omega
     rcases g.low with h|⟨k,b,h⟩
     all_goals grind
    ·obtain⟨m,D,H⟩:=r (d-1) O O O
     obtain⟨k,b,I⟩:=g.out m D
     grind
 have J:0<s.hi-s.lo+1:=by
  have:(0:Int)<=(((b_ s.n).filter λj=>z (s.lo<=s.K j)&&z (s.K j<=s.hi)).length:Int):=Int.natCast_nonneg _
  omega
 have u:=G7 s.lo s.K (b_ s.n) (s.hi-s.lo+1).toNat Y
 grind
def qS(q:Query)(x:ay)(d:Int):Bool:=xG x d&&dV q x d
def Fu(q)(x)(c)(D)(N)(V)(n)(i b j)(m:Nat)(E:j=(m:Int))(F:m<3)(t:aI 3 q.nw (au q.C)=true)(u:aI 1 q.ng (aR q.G)=true)(v:eU q=true)(hx:bB x=true)
  (hN:N j<=1000) (f:qS q x (b-1+m)=true->N (j+1)=N j+1/\V (N j)=b-1+m) (d:qS q x (b-1+m)=false->N (j+1)=N j) (Q) (hQ:Q):
  kr [mg] [] 92 11001 39 (oN q x c D N V i b) (λ_=>mV q x c D n V i) (λj=>j+1) Q j:=by
 rw[RH _ _ _ _ _ _ _ _ _ _ _ A]
 have s:q_ j=m:=O
 have w:c_ (0+q_ j)=(m:Int):=by rw[s,Nat.zero_add];rfl
 have o:eU ⟨q.nw,λj k=>bV (au q.C j) k,q.ng,λj=>q.G j,q.a,q.fl,q.nu,q.de,q.top⟩=true:=v
 have y:dV ⟨q.nw,λj k=>bV (au q.C j) k,q.ng,λj=>q.G j,q.a,q.fl,q.nu,q.de,q.top⟩ x (b-1+m)=dV q x (b-1+m):=rfl
 rw[w,s,o,y,hx]
 have hi:aN a_ (j+1)=true:=aq O O
 have tail:∀(k:Nat),k=N (j+1)->(an k (ae V) (ae V))->ax k (N (j+1)) (an k (ae V) (ae V)/\True):=λk e r=>YG e ⟨r,trivial⟩
 refine Zg (λ_=>?_) O
 refine cC _ _ Y (cC _ _ Y (cC _ _ (by show(aI 3 q.nw (au q.C)&&aI 1 q.ng (aR q.G)&&true&&true)=true;rw[t,u];rfl) ?_))
 cases g:xG x (b-1+m)with
 |true=>
  refine Zg (λ_=>?_) λh=>absurd A h
  have p:qS q x (b-1+m)=dV q x (b-1+m):=by unfold qS;rw[g];rfl
  rw[p]at f d
  cases l:dV q x (b-1+m)with
  |true=>
   obtain⟨k1,k2⟩:=f l
   have rows:=ey V (N j) (b-1+m) k2.symm
   refine cC _ _ Y (cC _ _ hi ?_)
   have k1:=k1.symm
   repeat' (first|exact hQ|exact rows|exact bL _ _|exact bC _ _|exact bO _ _|exact aZ|with_reducible rfl|refine Zf A ?_|refine YG k1 ?_|refine YG A ?_|refine Zi A ?_|refine And.intro ?_ ?_)
  |false=>
   have k1:=(d l).symm
   refine cC _ _ hi ?_
   exact ZC
 |false=>
  refine Zg zA λ_=>?_
  have k1:=(d (by unfold qS;rw[g];rfl)).symm
  refine cC _ _ hi ?_
  exact ZC
def NG(q)(x)(c)(D)(N)(V)(n)(i a j)(d:j=3)(b:N j=n)(Q):
  kr [mg] [] 92 11001 39 (oN q x c D N V i a) (λ_=>mV q x c D n V i) (λj=>j+1) Q j:=by
 rw[RH _ _ _ _ _ _ _ _ _ _ _ A]
 refine Zg O λ_=>?_
 repeat' (first|exact trivial|exact bL _ _|exact bC _ _|exact bO _ _|exact aZ|with_reducible rfl|refine Zf A ?_|refine YG b ?_|refine YG A ?_|refine Zi A ?_|refine And.intro ?_ ?_)
def XY(a):an 3 (fW [.int a_ (a-1),.int a_ a,.int a_ (a+1)] 1) (ae λk=>a-1+c_ k):=λk b σ=>by
 match k,b with
 |0,_=>exact⟨⟨rfl,by show a-1=a-1+(0:Int);omega⟩,trivial⟩
 |1,_=>exact⟨⟨rfl,by show a=a-1+(1:Int);omega⟩,trivial⟩
 |2,_=>exact⟨⟨rfl,by show a+1=a-1+(2:Int);omega⟩,trivial⟩
 |k+3,h=>omega
def C3(q)(x)(c)(D)(N a)(V)(n b)(i)(m:Nat)(hi:i=(m:Int))(f:m<q.nw+2)(g:q.nw<=6)(h : -1<=D m 2/\D m 2<=4398046511104)
  (hl:Zu PP II false (aD II 92 11001) 39 (oN q x c D a V i (D i.toNat 2) 0) (mV q x c D b V i)) (k1:N i=a 0) (k2:b=N (i+1)) (Q) (hQ:Q):
  kr [mg] [(11001,39,oN q x c D a V i (D i.toNat 2) 0,mV q x c D b V i)] 92 8001 36 (C1 q x c D N V) (λ_=>xZ q x c n V) (λj=>j+1) Q i:=by
 rw[wU]
 have e:q_ i=m:=O
 have k:c_ (q.nw+2)=(q.nw:Int)+2:=rfl
 rw[e]at hl⊢
 have c3:=XY (D m 2)
 refine Zg (λ_=>?_) O
 refine cC _ _ Y (cC _ _ Y (cC _ _ (aq O O) (cC _ _ (aq O O) ⟨hl,?_⟩)))
 have d:aN a_ (i+1)=true:=aq O O
 repeat' (first|exact hQ|exact c3|exact bL _ _|exact bC _ _|exact bO _ _|exact aZ|with_reducible rfl|refine Zf A ?_|refine YG k1 ?_|refine YG k2 ?_|refine YG A ?_|refine Zi A ?_|refine And.intro ?_ ?_|refine cC _ _ d ?_)
def JA(q)(x)(c)(D)(N a)(V)(n b)(i)(hi:i=((q.nw+2:Nat):Int))(k1:N i=n)(Q):
  kr [mg] [(11001,39,oN q x c D a V i (D i.toNat 2) 0,mV q x c D b V i)] 92 8001 36 (C1 q x c D N V) (λ_=>xZ q x c n V) (λj=>j+1) Q i:=by
 rw[wU]
 have d:c_ (q.nw+2)=((q.nw+2:Nat):Int):=rfl
 refine Zg O λ_=>?_
 repeat' (first|exact trivial|exact bL _ _|exact bC _ _|exact bO _ _|exact aZ|with_reducible rfl|refine Zf A ?_|refine YG k1 ?_|refine YG A ?_|refine Zi A ?_|refine And.intro ?_ ?_)
def rT(q:Query)(x:ay)(k:Nat):Int:=cY q x (k/3) 2-1+((k%3:Nat):Int)
def NH(q:Query)(x:ay)(k:Nat):List Int:=((b_ k).map (rT q x)).filter (qS q x)
def ib(q:Query)(x:ay)(k:Nat):Nat:=(NH q x k).length
def jQ(q:Query)(x:ay):Nat:=ib q x (3*(q.nw+2))
def fT(q:Query)(x:ay)(m:Nat):Int:=(NH q x (3*(q.nw+2))).getD m 0
def A2(q)(x)(k n):NH q x (k+n)=NH q x k++((b_ n).map λj=>rT q x (k+j)).filter (qS q x):=by
 unfold NH
 rw[List.range_add,List.map_append,List.filter_append,List.map_map];rfl
def QO{q x k}(h:qS q x (rT q x k)=true):ib q x (k+1)=ib q x k+1:=by
 unfold ib;rw[A2,o_];simp[h]
def Uu{q x k}(h:qS q x (rT q x k)=false):ib q x (k+1)=ib q x k:=by
 unfold ib;rw[A2,o_];simp[h]
def NI(q)(x)(k):ib q x k<=k:=by
 unfold ib NH
 grind
def Uv{q x k}(b:k<3*(q.nw+2))(h:qS q x (rT q x k)=true):fT q x (ib q x k)=rT q x k:=by
 unfold fT ib
 obtain⟨r,a⟩:∃r,3*(q.nw+2)=k+(r+1):=⟨3*(q.nw+2)-k-1,O⟩
 rw[a,A2,List.range_succ_eq_map,List.map_cons,List.filter_cons,Nat.add_zero,h]
 simp
def rU(q)(x)(i j)(a:j<3):rT q x (3*i+j)=cY q x i 2-1+(j:Int):=by
 unfold rT
 grind
def A3{q x}(a:eU q=true)(hx:bB x=true)(m)(b:m<q.nw+2): -1<=cY q x m 2/\cY q x m 2<=4398046511104:=by
 obtain⟨_,c⟩:=fQ a
 unfold bB at hx
 simp only[bf,bn]at hx
 unfold cY
 grind
def JB(q)(x)(c)(i)(hi:i<q.nw+2)(g:aI 3 q.nw (au q.C)=true)(k:aI 1 q.ng (aR q.G)=true)(d:eU q=true)(hx:bB x=true):
  Zu PP II false (aD II 92 11001) 39 (oN q x c (cY q x) (λj=>ib q x (3*i+j.toNat)) (fT q x) (i:Int) (cY q x i 2) 0) (mV q x c (cY q x) (ib q x (3*(i+1))) (fT q x) (i:Int)):=by
 have l:=(fQ d).1
 have key:=Zu.of (ι:=Nat) iw [mg] (bm PP II []) 1000 (c:=aD II 92 11001) (ir:=false) 39 (λj=>j<=3) (λj=>oN q x c (cY q x) (λj=>ib q x (3*i+j.toNat)) (fT q x) (i:Int) (cY q x i 2) (j:Int)) (λ_=>mV q x c (cY q x) (ib q x (3*(i+1))) (fT q x) (i:Int)) (λj=>3-j) (λj=>j+1) 0 A (l_ _) λj b=>?_
 ·exact key
 have b:j<=3:=b
 by_cases a:j<3
 ·have e:((j:Int)).toNat=j:=by omega
  have f:((j:Int)+1).toNat=j+1:=O
  have m:=NI q x (3*i+j)
  refine Fu q x c (cY q x) _ (fT q x) _ (i:Int) (cY q x i 2) (j:Int) j A a g k d hx ?_ (λh=>?_) (λh=>?_) ((j+1<=3)/\3-(j+1)<3-j/\(mV q x c (cY q x) (ib q x (3*(i+1))) (fT q x) (i:Int)).pick=(mV q x c (cY q x) (ib q x (3*(i+1))) (fT q x) (i:Int)).pick) Y
  grind
  ·rw[<-rU q x i j a]at h⊢
   show ib q x (3*i+((j:Int)+1).toNat)=ib q x (3*i+((j:Int)).toNat)+1/\fT q x (ib q x (3*i+((j:Int)).toNat))=_
   rw[e,f]
   exact⟨QO h,Uv O h⟩
  ·rw[<-rU q x i j a]at h
   show ib q x (3*i+((j:Int)+1).toNat)=ib q x (3*i+((j:Int)).toNat)
   rw[e,f]
   exact Uu h
 ·have b:j=3:=by omega
  subst b
  exact NG q x c (cY q x) _ (fT q x) _ (i:Int) (cY q x i 2) 3 A A _
def Fv(q)(x)(c)(d:aI 3 q.nw (au q.C)=true)(e:aI 1 q.ng (aR q.G)=true)(b:eU q=true)(hx:bB x=true):
  Zu PP II false (aD II 92 8001) 36 (C1 q x c (cY q x) (λi=>ib q x (3*i.toNat)) (fT q x) 0) (xZ q x c (jQ q x) (fT q x)):=by
 have f:=(fQ b).1
 have key:=Zu.Vk (ι:=Nat) iw [mg] 1000 (λi=>[(11001,39,oN q x c (cY q x) (λj=>ib q x (3*i+j.toNat)) (fT q x) (i:Int) (cY q x ((i:Int)).toNat 2) 0,mV q x c (cY q x) (ib q x (3*(i+1))) (fT q x) (i:Int))]) (c:=aD II 92 8001) (ir:=false) 36 (λi=>i<=q.nw+2) (λi=>C1 q x c (cY q x) (λi=>ib q x (3*i.toNat)) (fT q x) (i:Int)) (λ_=>xZ q x c (jQ q x) (fT q x)) (λi=>q.nw+2-i) (λi=>i+1) 0 A (l_ _) λi hi=>?_
 ·exact key
 have hi:i<=q.nw+2:=hi
 have g:((i:Int)).toNat=i:=O
 have h:((i:Int)+1).toNat=i+1:=O
 by_cases a:i<q.nw+2
 ·refine C3 q x c (cY q x) _ _ (fT q x) _ _ (i:Int) i A a f (A3 b hx i a) ?_ ?_ ?_ ((i+1<=q.nw+2)/\q.nw+2-(i+1)<q.nw+2-i/\(xZ q x c (jQ q x) (fT q x)).pick=(xZ q x c (jQ q x) (fT q x)).pick) Y
  ·rw[g];exact JB q x c i a d e b hx
  all_goals rfl
 ·have hi:i=q.nw+2:=by omega
  subst hi
  refine JA q x c (cY q x) _ _ (fT q x) _ _ _ A ?_ _
  rfl
def kR(q:Query)(x:ay):Int:=match gk q x with
 |false=>0
 |true=>if q.a=1 then 1 else if q.fl=7 then x.b else match jA q x with|true=>x.l|false=>jc (fT q x) (jQ q x)
def lJ(q:Query)(x:ay):Int:=match gk q x with
 |false=>0
 |true=>if q.a=1 then 1 else if q.fl=7 then x.b else match jA q x with|true=>x.h|false=>cG (fT q x) (jQ q x)
def Br(q:Query)(x:ay):Bool:=gk q x&&jA q x
def QP{q x k d}(h:d∈NH q x k):qS q x d=true:=(List.mem_filter.1 h).2
def wX{q:Query}{x:ay}(a:eU q=true)(b:gk q x=true):0<jQ q x:=by
 obtain⟨d,c,f⟩:=QN a b
 have:d∈NH q x (3*(q.nw+2)):=by
  refine List.mem_filter.2 ⟨?_,c⟩
  have mk:∀i j:Nat,i<q.nw+2->j<3->d=cY q x i 2-1+(j:Int)->d∈(b_ (3*(q.nw+2))).map (rT q x):=λi j hi g e=>
   List.mem_map.2 ⟨3*i+j,Y,(rU q x i j g).trans e.symm⟩
  rcases f with h|⟨k,hk,h|h⟩
  ·refine mk q.nw 1 O O ?_
   unfold cY
   omega
  ·refine mk k 1 O O ?_
   unfold cY
   omega
  ·refine mk k 2 O O ?_
   unfold cY
   omega
 exact List.length_pos_iff.2 (n_ this)
def NJ(q)(x):an (q.nw+2) (λi=>bif B i q.nw then au (bG (au q.C)) i else h_ 3 (f_ (0+(i-q.nw)*3) [.int a_ 0,.int a_ 0,.int a_ x.l,.int a_ 0,.int a_ 0,.int a_ x.h])) (au (cY q x)):=λi hi σ=>by
 show bt.le σ (bif B i q.nw then au (bG (au q.C)) i else h_ 3 (f_ (0+(i-q.nw)*3) [.int a_ 0,.int a_ 0,.int a_ x.l,.int a_ 0,.int a_ 0,.int a_ x.h])) (au (cY q x) i)
 by_cases h:i<q.nw
 ·rw[eV h]
  refine⟨⟨rfl,?_⟩,⟨rfl,?_⟩,⟨rfl,?_⟩,trivial⟩<;>(unfold cY;rw[if_pos h];rfl)
 ·rw[js h]
  by_cases e:i=q.nw
  ·subst e
   rw[show 0+(q.nw-q.nw)*3=0 by omega]
   refine⟨⟨rfl,?_⟩,⟨rfl,?_⟩,⟨rfl,?_⟩,trivial⟩<;>(unfold cY;simp)
  ·have:i=q.nw+1:=by omega
   subst this
   rw[show 0+(q.nw+1-q.nw)*3=3 by omega]
   refine⟨⟨rfl,?_⟩,⟨rfl,?_⟩,⟨rfl,?_⟩,trivial⟩<;>(unfold cY;rw[if_neg h];simp)
def Fw{q x}(b:gk q x=true)(a:jA q x=false):0<q.nw:=by
 refine Nat.pos_of_ne_zero λe=>?_
 have c:dC q x=⟨true,x.l,x.h,0,λ_=>0⟩:=by unfold dC;rw[e];rfl
 unfold jA lT fy rL at a
 grind
def NK{q x}(e:aI 3 q.nw (au q.C)=true)(f:aI 1 q.ng (aR q.G)=true)(c:eU q=true)(hx:bB x=true):
  af PP II 92 [.agg (aY q),.agg (aF x)] HO (.ret (.bK [.agg [.int a_ (kR q x),.int a_ (lJ q x),.bool (Br q x)],.bool (gk q x)]) HO):=by
 have m:=(fQ c).1
 refine CB (ks:=[WV,mg,G5,SJ,Mo]) (T:=[(8001,36,C1 q x (jA q x) (cY q x) (λi=>ib q x (3*i.toNat)) (fT q x) 0,xZ q x (jA q x) (jQ q x) (fT q x))]) (λσ=>⟨⟨⟨rfl,rfl⟩,⟨rfl,rfl⟩,rfl,trivial⟩,rfl,trivial⟩) ?_
 rw[ND _ _ _ _ _ _ _ _ A A A,e,f,show eU _=true from(oH q).trans c,hx,show gk ⟨q.nw,bG (au q.C),q.ng,λj=>q.G j,q.a,q.fl,q.nu,q.de,q.top⟩ x=gk q x from Jy q x,show jA ⟨q.nw,bG (au q.C),q.ng,λj=>q.G j,q.a,q.fl,q.nu,q.de,q.top⟩ x=jA q x from Jz q x]
 refine cC _ _ A (cC _ _ A (cC _ _ A ?_))
 have g:=NJ q x
 unfold kR lJ Br
 cases hp:gk q x with
 |false=>exact⟨rfl,rfl⟩
 |true=>
  have k:=wX c hp
  have o:jQ q x<=3*(q.nw+2):=NI q x _
  cases l:jA q x with
  |true=>
   show ah (z (q.a=1)) _ (ah (z (q.fl=7)) _ _)
   refine Zg (λh=>?_) λh=>Zg (λd=>?_) λd=>?_
   all_goals grind
  |false=>
   have lp:=Fv q x false e f c hx
   have nw:=Fw hp l
   have a1:((i_ (List.range.loop (jQ q x) []) λi=>true)&&z (jQ q x<=jQ q x))=true:=by rw[C2 λ_=>rfl,bW (dw _)];rfl
   have a2:((i_ (List.range.loop (jQ q x) []) λi=>true)&&t_ (jQ q x) 1000000000000&&B 0 (jQ q x))=true:=by rw[C2 λ_=>rfl,kV O,eV k];rfl
   refine cC _ _ (by rw[eV nw,kV O];rfl) (cC _ _ (bW A) (cC _ _ (bW A) (cC _ _ Y ⟨lp,?_⟩)))
   have b:ib q x (3*(0:Int).toNat)=0:=rfl
   generalize jQ q x=n at*
   generalize fT q x=V at*
   refine YG b (YG A ⟨g,rfl,?_⟩)
   refine Zf A (Zf A (Zf A (Zf A (Zf A (Zf A (Zf A (Zf A (Zf A (Zf A (YG A ⟨bC _ _,YG A ⟨bO _ _,Zf A (Zf A (Zi A (Zi A (Zf A ⟨aZ,YG b (Zf A (YG A ⟨rfl,?_⟩))⟩))))⟩⟩))))))))))
   refine cC _ _ a1 (cC _ _ a2 (cC _ _ a1 (cC _ _ a2 ?_)))
   refine Zg (λh=>?_) λh=>Zg (λd=>?_) λd=>?_
   all_goals grind
def qT(q:Query)(cs:List AV):Bool:=match cs with
 |[.az nw 3 f,.az ng 1 g,.int a_ a,.int a_ fl,.str nu,.str de,.int a_ top]=>d_ nw q.nw&&d_ ng q.ng&&((b_ nw).all λj=>match f j with|[.int a_ x,.int a_ y,.int a_ b]=>z (x=q.C j 0)&&z (y=q.C j 1)&&z (b=q.C j 2)|_=>false)&&((b_ ng).all λj=>match g j with|[.int a_ x]=>z (x=q.G j)|_=>false)&&z (a=q.a)&&z (fl=q.fl)&&z (nu=q.nu)&&z (de=q.de)&&z (top=q.top)
 |_=>false
def mi{q:Query}{cs:List AV}(h:qT q cs=true):AV.le (λl=>l) (.agg cs) (.agg (aY q))/\∀σ,B_ σ (.agg cs)= .agg cs:=by
 unfold qT at h
 split at h
 ·simp only[bf,bn,p_,List.mem_range]at h
  obtain⟨⟨⟨⟨⟨⟨⟨⟨b,c⟩,d⟩,f⟩,g⟩,j⟩,k⟩,m⟩,n⟩:=h
  have b:=dE b
  have c:=dE c
  refine⟨⟨⟨b,rfl,λi hi=>?_⟩,⟨c,rfl,λi hi=>?_⟩,⟨rfl,g⟩,⟨rfl,j⟩,k,m,⟨rfl,n⟩,trivial⟩,λ_=>rfl⟩
  ·have:=d i hi
   split at this
   ·rename_i x y a e
    simp only[bf,bn]at this
    rw[e]
    exact⟨⟨rfl,this.1.1⟩,⟨rfl,this.1.2⟩,⟨rfl,this.2⟩,trivial⟩
   ·cases this
  ·have:=f i hi
   split at this
   ·rename_i x e
    rw[e]
    exact⟨⟨rfl,pT this⟩,trivial⟩
   ·cases this
 ·cases h
def jv(q):qT q [.az q.nw 3 (au q.C),.az q.ng 1 (aR q.G),.int a_ q.a,.int a_ q.fl,.str q.nu,.str q.de,.int a_ q.top]=true:=by
 unfold qT
 have c:((b_ q.nw).all λj=>match au q.C j with|[.int a_ x,.int a_ y,.int a_ b]=>z (x=q.C j 0)&&z (y=q.C j 1)&&z (b=q.C j 2)|_=>false)=true:=List.all_eq_true.2 λj _=>by simp[au]
 have d:((b_ q.ng).all λj=>match aR q.G j with|[.int a_ x]=>z (x=q.G j)|_=>false)=true:=List.all_eq_true.2 λj _=>by simp[aR]
 simp_all
def ct(q:Query):Bool:=aI 3 q.nw (au q.C)&&aI 1 q.ng (aR q.G)&&eU q
def mY{q}(h:ct q=true):aI 3 q.nw (au q.C)=true/\aI 1 q.ng (aR q.G)=true/\eU q=true:=by
 unfold ct at h
 grind
def jW(q:Query):aC PP II:=aC.CC 92
 (λX args b=>match args with
  |[.agg cs,.agg ds]=>match iV ds with
   |some x=>X.ak (qT q cs&&ct q&&bB x) (b (.bK [.agg [.int a_ (kR q x),.int a_ (lJ q x),.bool (Br q x)],.bool (gk q x)]))
   |_=>X.fail
  |_=>X.fail)
 λX sem hX args b h=>by
  split at h
  ·split at h
   ·rename_i x hx
    obtain⟨a,c⟩:=hX.ak _ _ h
    simp only[bf]at a
    cases fK hx
    obtain⟨r1,d,e⟩:=mY a.1.2
    obtain⟨l1,l2⟩:=mi a.1.1
    refine⟨_,c,λ_=>rfl,λσ=>?_,af.dA (NK r1 d e a.2) l1 (uY x)⟩
    show [B_ σ (.agg _),_]=_
    rw[l2];rfl
   ·exact zR
  ·exact zR
def qj(q:Query)(g:Nat):aC PP II:=aC.CC 30
 (λX args b=>match args with
  |[.agg cs,.agg ds]=>match iV ds with
   |some x=>X.ak (qT q cs&&ct q&&bB x&&d_ q.ng g) (b (.bK [.az g 1 (ae (bc q x)),.int a_ 0]))
   |_=>X.fail
  |_=>X.fail)
 λX sem hX args b h=>by
  split at h
  ·split at h
   ·rename_i x hx
    obtain⟨a,c⟩:=hX.ak _ _ h
    simp only[bf]at a
    cases fK hx
    obtain⟨r1,d,e⟩:=mY a.1.1.2
    obtain⟨l1,l2⟩:=mi a.1.1.1
    cases dE a.2
    refine⟨_,c,λ_=>rfl,λσ=>?_,af.dA (Uo r1 d e a.1.2) l1 (uY x)⟩
    show [B_ σ (.agg _),_]=_
    rw[l2];rfl
   ·exact zR
  ·exact zR
def tG(k:Nat)(F:Nat->ay)(out:AV)(i:Int):Tr AV:=Tr.ofList [(2,.ptr 14 0 0 0),(5,.map (m_ 15)),(6,out),(15,cm k F),(16,.int a_ (c_ k)),(17,.int a_ i)]
def hG(q:Query)(n:Nat)(a:List (Nat×Zv)):AH:=hQ n ([(14,.cells (aY q) (.ty 32))]++a)
def eW(b:Nat->Nat)(i:Nat):List AV:=[.addr (b i) 0]
abbrev kg(ks:List (aC PP II))(f key n0:Nat)(s b:St)(P:St->Prop):Prop :=
 uA ks (mG PP II []) 1000 false (.code (aD II f key)) s {n:=λa=>mF n0 a b (P a),x:=λ_ _=>False,g:=λ_ _=>False,r:=λ_=>False,p:=λ_ _=>False}
def C4(n:Nat)(s:St):Prop:=match cR s.t 6 with
 | .own L _ _=>match s.H.get L with
  | .rows _ _ f _=>match s.H.get 15 with
   | .cT _ _ _ (m_ (_,.ptr g k e j))=>f n=[.ptr g k e j]
   |_=>False
  |_=>False
 |_=>False
def ui(q:Query)(k:Nat)(F:Nat->ay)(a b c:Nat)(out:AV)(i:Int):Bool->St
 |false=>{t:=tG k F out i,nt:=86,H:=hG q 17 [],df:=[]}
 |true=>{t:=tG k F out (i+1),nt:=86,H:=hG q 17 [],df:=[]}
def QQ(q:Query)(k n:Nat)(F:Nat->ay)(K:Nat->List Int)(b:Nat->Nat)(ks:List Int)(g:Nat)(W:Nat->Int)(lo hi:Int)(c:Bool)(i:Int):Bool->St
 |false=>{t:=tG k F (.own 16 n 1) i,nt:=86,H:=hG q 17 [(15,.cT n K (λj=> .addr (b j) 0) u_),(16,.rows n 1 (eW b) (.ty 89))],df:=[]}
 |true=>{t:=tG k F (.own 20 (n+1) 1) (i+1),nt:=86,H:=hG q 21 [(15,.cT (n+1) (cZ n K ks) (λj=>bif d_ j n then .any else .addr (b j) 0) (m_ (n,.ptr 17 0 0 0))),(17,.cells [.az g 1 (ae W),.own 18 1 3,.own 19 1 1] (.ty 94)),(18,.rows 1 3 (λ_=>[.int a_ lo,.int a_ hi,.bool c]) (.ty 99)),(19,.rows 1 1 (λ_=>[.int a_ i]) (.ty 3)),(20,.rows (n+1) 1 (λj=>bif d_ j n then [.any]else eW b j) (.ty 89))],df:=[]}
def Fx(q:Query)(k n:Nat)(F:Nat->ay)(K:Nat->List Int)(b:Nat->Nat)(j g:Nat)(W:Nat->Int)(m:Nat)(S T:Nat->List AV)(a c:Nat->List AV)(i:Int):Bool->St
 |false=>{t:=tG k F (.own 16 n 1) i,nt:=86,H:=hG q 20 [(15,.cT n K (λj=> .addr (b j) 0) (m_ (j,.ptr 17 0 0 0))),(16,.rows n 1 (eW b) (.ty 89)),(17,.cells [.az g 1 (ae W),.own 18 m 3,.own 19 m 1] (.ty 94)),(18,.rows m 3 S (.ty 99)),(19,.rows m 1 T (.ty 3))],df:=[]}
 |true=>{t:=tG k F (.own 16 n 1) (i+1),nt:=86,H:=hG q 22 [(15,.cT n K (λj=> .addr (b j) 0) (m_ (j,.ptr 17 0 0 0))),(16,.rows n 1 (eW b) (.ty 89)),(17,.cells [.az g 1 (ae W),.own 20 (m+1) 3,.own 21 (m+1) 1] (.ty 94)),(20,.rows (m+1) 3 a (.ty 99)),(21,.rows (m+1) 1 c (.ty 3))],df:=[]}
def NL(q)(k)(F)(a b c)(i)(l n:Nat)(Q){d}(e:d=[r_ q.nw 3 (au q.C),r_ q.ng 1 (aR q.G),e_ a_ q.a,e_ a_ q.fl,k_ q.nu,k_ q.de,e_ a_ q.top]):(kg [jW q,qj q 0] 40 4001 17 (ui q k F a b c (.own 16 n 1) i false) (ui q k F a b c (.own 16 n 1) i true) (λ_=>Q))=(ah (z (i<c_ k)) (aa (z (0<=i)&&z (i<c_ k)) (aa (qT q d&&ct q&&bB (F i.toNat)) (ah (!gk q (F i.toNat)) (aa (aN a_ (i+1)) (zyN q.nw (zyR q.nw (au q.C) (zyN q.ng (zyR q.ng (aR q.G) (zyI q.a (zyI q.fl (zyB q.nu (zyB q.de (zyI q.top (zyB [48] (zyB [49] (zyR 5 aA (zyN k ((an k (λi=>aF (F i)) λi=>aF (F i))/\zyI (i+1) (zyI (c_ k) (zyN n Q))))))))))))))))) (aa (qT q d&&ct q&&bB (F i.toNat)&&d_ q.ng 0) False)))) False):=by subst_vars;kernel_rfl
def QR(q)(k n)(F)(K)(b)(i){d}(g:d=[r_ q.nw 3 (au q.C),r_ q.ng 1 (aR q.G),e_ a_ q.a,e_ a_ q.fl,k_ q.nu,k_ q.de,e_ a_ q.top]):(kg [jW q,qj q q.ng] 40 4001 17 (QQ q k n F K b [bif B 0 q.ng then bc q (F i.toNat) 0 else 0,bif B 1 q.ng then bc q (F i.toNat) 1 else 0,bif B 2 q.ng then bc q (F i.toNat) 2 else 0] q.ng (bc q (F i.toNat)) (kR q (F i.toNat)) (lJ q (F i.toNat)) (Br q (F i.toNat)) i false) (QQ q k n F K b [bif B 0 q.ng then bc q (F i.toNat) 0 else 0,bif B 1 q.ng then bc q (F i.toNat) 1 else 0,bif B 2 q.ng then bc q (F i.toNat) 2 else 0] q.ng (bc q (F i.toNat)) (kR q (F i.toNat)) (lJ q (F i.toNat)) (Br q (F i.toNat)) i true) (C4 n))=(ah (z (i<c_ k)) (aa (z (0<=i)&&z (i<c_ k)) (aa (qT q d&&ct q&&bB (F i.toNat)) (ah (!gk q (F i.toNat)) (aa (aN a_ (i+1)) (ax n (n+1) ((an n (eW b) λj=>bif d_ j n then [y_]else eW b j)/\ax 1 0 (ax 1 0 False)))) (aa (qT q d&&ct q&&bB (F i.toNat)&&d_ q.ng q.ng) (aa (t_ q.ng 3&&i_ (b_ q.ng) λi=>true) (aa (ob n K 3&&Kv n K [bif B 0 q.ng then bc q (F i.toNat) 0 else 0,bif B 1 q.ng then bc q (F i.toNat) 1 else 0,bif B 2 q.ng then bc q (F i.toNat) 2 else 0]) (aa (ob n K 3&&Kv n K [bif B 0 q.ng then bc q (F i.toNat) 0 else 0,bif B 1 q.ng then bc q (F i.toNat) 1 else 0,bif B 2 q.ng then bc q (F i.toNat) 2 else 0]) (aa (ob (n+1) (cZ n K [bif B 0 q.ng then bc q (F i.toNat) 0 else 0,bif B 1 q.ng then bc q (F i.toNat) 1 else 0,bif B 2 q.ng then bc q (F i.toNat) 2 else 0]) 3&&uI (n+1) (cZ n K [bif B 0 q.ng then bc q (F i.toNat) 0 else 0,bif B 1 q.ng then bc q (F i.toNat) 1 else 0,bif B 2 q.ng then bc q (F i.toNat) 2 else 0]) [bif B 0 q.ng then bc q (F i.toNat) 0 else 0,bif B 1 q.ng then bc q (F i.toNat) 1 else 0,bif B 2 q.ng then bc q (F i.toNat) 2 else 0] n) (aa (z (n<=n)&&true&&true&&z ((n+1)*8<=140737488355328)&&true) (aa (ob (n+1) (cZ n K [bif B 0 q.ng then bc q (F i.toNat) 0 else 0,bif B 1 q.ng then bc q (F i.toNat) 1 else 0,bif B 2 q.ng then bc q (F i.toNat) 2 else 0]) 3&&uI (n+1) (cZ n K [bif B 0 q.ng then bc q (F i.toNat) 0 else 0,bif B 1 q.ng then bc q (F i.toNat) 1 else 0,bif B 2 q.ng then bc q (F i.toNat) 2 else 0]) [bif B 0 q.ng then bc q (F i.toNat) 0 else 0,bif B 1 q.ng then bc q (F i.toNat) 1 else 0,bif B 2 q.ng then bc q (F i.toNat) 2 else 0] n) (aa (ob (n+1) (cZ n K [bif B 0 q.ng then bc q (F i.toNat) 0 else 0,bif B 1 q.ng then bc q (F i.toNat) 1 else 0,bif B 2 q.ng then bc q (F i.toNat) 2 else 0]) 3&&uI (n+1) (cZ n K [bif B 0 q.ng then bc q (F i.toNat) 0 else 0,bif B 1 q.ng then bc q (F i.toNat) 1 else 0,bif B 2 q.ng then bc q (F i.toNat) 2 else 0]) [bif B 0 q.ng then bc q (F i.toNat) 0 else 0,bif B 1 q.ng then bc q (F i.toNat) 1 else 0,bif B 2 q.ng then bc q (F i.toNat) 2 else 0] n) (aa (ob (n+1) (cZ n K [bif B 0 q.ng then bc q (F i.toNat) 0 else 0,bif B 1 q.ng then bc q (F i.toNat) 1 else 0,bif B 2 q.ng then bc q (F i.toNat) 2 else 0]) 3&&uI (n+1) (cZ n K [bif B 0 q.ng then bc q (F i.toNat) 0 else 0,bif B 1 q.ng then bc q (F i.toNat) 1 else 0,bif B 2 q.ng then bc q (F i.toNat) 2 else 0]) [bif B 0 q.ng then bc q (F i.toNat) 0 else 0,bif B 1 q.ng then bc q (F i.toNat) 1 else 0,bif B 2 q.ng then bc q (F i.toNat) 2 else 0] n) (aa (z ((bif B 0 q.ng then bc q (F i.toNat) 0 else 0)=bif B 0 q.ng then bc q (F i.toNat) 0 else 0)&&(z ((bif B 1 q.ng then bc q (F i.toNat) 1 else 0)=bif B 1 q.ng then bc q (F i.toNat) 1 else 0)&&(z ((bif B 2 q.ng then bc q (F i.toNat) 2 else 0)=bif B 2 q.ng then bc q (F i.toNat) 2 else 0)&&true))) (aa (ob (n+1) (cZ n K [bif B 0 q.ng then bc q (F i.toNat) 0 else 0,bif B 1 q.ng then bc q (F i.toNat) 1 else 0,bif B 2 q.ng then bc q (F i.toNat) 2 else 0]) 3&&uI (n+1) (cZ n K [bif B 0 q.ng then bc q (F i.toNat) 0 else 0,bif B 1 q.ng then bc q (F i.toNat) 1 else 0,bif B 2 q.ng then bc q (F i.toNat) 2 else 0]) [bif B 0 q.ng then bc q (F i.toNat) 0 else 0,bif B 1 q.ng then bc q (F i.toNat) 1 else 0,bif B 2 q.ng then bc q (F i.toNat) 2 else 0] n) (aa (ob (n+1) (cZ n K [bif B 0 q.ng then bc q (F i.toNat) 0 else 0,bif B 1 q.ng then bc q (F i.toNat) 1 else 0,bif B 2 q.ng then bc q (F i.toNat) 2 else 0]) 3&&uI (n+1) (cZ n K [bif B 0 q.ng then bc q (F i.toNat) 0 else 0,bif B 1 q.ng then bc q (F i.toNat) 1 else 0,bif B 2 q.ng then bc q (F i.toNat) 2 else 0]) [bif B 0 q.ng then bc q (F i.toNat) 0 else 0,bif B 1 q.ng then bc q (F i.toNat) 1 else 0,bif B 2 q.ng then bc q (F i.toNat) 2 else 0] n) (aa (ob (n+1) (cZ n K [bif B 0 q.ng then bc q (F i.toNat) 0 else 0,bif B 1 q.ng then bc q (F i.toNat) 1 else 0,bif B 2 q.ng then bc q (F i.toNat) 2 else 0]) 3&&uI (n+1) (cZ n K [bif B 0 q.ng then bc q (F i.toNat) 0 else 0,bif B 1 q.ng then bc q (F i.toNat) 1 else 0,bif B 2 q.ng then bc q (F i.toNat) 2 else 0]) [bif B 0 q.ng then bc q (F i.toNat) 0 else 0,bif B 1 q.ng then bc q (F i.toNat) 1 else 0,bif B 2 q.ng then bc q (F i.toNat) 2 else 0] n) (aa (z ((bif B 0 q.ng then bc q (F i.toNat) 0 else 0)=bif B 0 q.ng then bc q (F i.toNat) 0 else 0)&&(z ((bif B 1 q.ng then bc q (F i.toNat) 1 else 0)=bif B 1 q.ng then bc q (F i.toNat) 1 else 0)&&(z ((bif B 2 q.ng then bc q (F i.toNat) 2 else 0)=bif B 2 q.ng then bc q (F i.toNat) 2 else 0)&&true))) (aa (aN a_ (i+1)) (zyN (n+1) ((an (n+1) (λi=>bif B i n then eW b i else h_ 1 (f_ (0+(i-n)*1) [s_ 20 0 0 0])) λj=>bif d_ j n then [y_]else eW b j)/\(an 1 (fW [e_ a_ i] 1) λx=>[e_ a_ i])/\(an 1 (fW [e_ a_ (kR q (F i.toNat)),e_ a_ (lJ q (F i.toNat)),w_ (Br q (F i.toNat))] 3) λx=>[e_ a_ (kR q (F i.toNat)),e_ a_ (lJ q (F i.toNat)),w_ (Br q (F i.toNat))])/\zyN q.ng (zyR q.ng (ae (bc q (F i.toNat))) (zyN (n+1) ((∀(c),c<n+1->cZ n K [bif B 0 q.ng then bc q (F i.toNat) 0 else 0,bif B 1 q.ng then bc q (F i.toNat) 1 else 0,bif B 2 q.ng then bc q (F i.toNat) 2 else 0] c=cZ n K [bif B 0 q.ng then bc q (F i.toNat) 0 else 0,bif B 1 q.ng then bc q (F i.toNat) 1 else 0,bif B 2 q.ng then bc q (F i.toNat) 2 else 0] c/\∀(σ),AV.le σ (nz n (λj=>C_ (b j) 0) (s_ 20 0 0 0) c) (bif d_ c n then y_ else C_ (b c) 0))/\zyN n (zyN q.nw (zyR q.nw (au q.C) (zyN q.ng (zyR q.ng (aR q.G) (zyI q.a (zyI q.fl (zyB q.nu (zyB q.de (zyI q.top (zyB [48] (zyB [49] (zyR 5 aA (zyN k ((an k (λi=>aF (F i)) λi=>aF (F i))/\zyI (i+1) (zyI (c_ k) (zyN (n+1) ((bif B n n then eW b n else Nat.rec (motive:=λx=>z_ (motive:=λx=>List AV->List AV) x->List AV) (λx=>[]) (λe f=>List.casesOn (motive:=λx=>z_ (motive:=λx=>List AV->List AV) (e+1)->List AV) (f_ (0+(n-n)*1) [s_ 20 0 0 0]) (λx=>[]) λhead tail x=>head::x.1 tail) 1 ⟨λx=>[],PUnit.unit⟩)=[s_ 20 0 0 0])))))))))))))))))))))))))))))))))))))))) False):=by subst_vars;kernel_rfl
def QS(q)(k n)(F)(K)(b)(j m)(W)(S T f g)(i)(Q){d}(h:d=(zyN n (zyR n (eW b) (zyN n ((∀(i),i<n->K i=K i/\∀(σ:Nat->Nat),b i=b i/\0=0)/\zyN j (zyN q.nw (zyR q.nw (au q.C) (zyN q.ng (zyR q.ng (aR q.G) (zyI q.a (zyI q.fl (zyB q.nu (zyB q.de (zyI q.top (zyB [48] (zyB [49] (zyR 5 aA (zyN k ((an k (λi=>aF (F i)) λi=>aF (F i))/\zyI (i+1) (zyI (c_ k) (zyN n Q))))))))))))))))))))){e}(l:e=[r_ q.nw 3 (au q.C),r_ q.ng 1 (aR q.G),e_ a_ q.a,e_ a_ q.fl,k_ q.nu,k_ q.de,e_ a_ q.top]):(kg [jW q,qj q q.ng] 40 4001 20 (Fx q k n F K b j q.ng W m S T f g i false) (Fx q k n F K b j q.ng W m S T f g i true) (λ_=>Q))=(ah (z (i<c_ k)) (aa (z (0<=i)&&z (i<c_ k)) (aa (qT q e&&ct q&&bB (F i.toNat)) (ah (!gk q (F i.toNat)) (aa (aN a_ (i+1)) (ax m (m+1) (an m T g/\ax m (m+1) (an m S f/\zyN q.ng (zyR q.ng (ae W) (ax m (m+1) (ax m (m+1) d))))))) (aa (qT q e&&ct q&&bB (F i.toNat)&&d_ q.ng q.ng) (aa (t_ q.ng 3&&i_ (b_ q.ng) λi=>true) (aa (ob n K 3&&uI n K [bif B 0 q.ng then bc q (F i.toNat) 0 else 0,bif B 1 q.ng then bc q (F i.toNat) 1 else 0,bif B 2 q.ng then bc q (F i.toNat) 2 else 0] j) (aa (ob n K 3&&uI n K [bif B 0 q.ng then bc q (F i.toNat) 0 else 0,bif B 1 q.ng then bc q (F i.toNat) 1 else 0,bif B 2 q.ng then bc q (F i.toNat) 2 else 0] j) (aa (ob n K 3&&uI n K [bif B 0 q.ng then bc q (F i.toNat) 0 else 0,bif B 1 q.ng then bc q (F i.toNat) 1 else 0,bif B 2 q.ng then bc q (F i.toNat) 2 else 0] j) (aa (z (m<=m)&&true&&true&&z ((m+1)*24<=140737488355328)&&true) (aa (ob n K 3&&uI n K [bif B 0 q.ng then bc q (F i.toNat) 0 else 0,bif B 1 q.ng then bc q (F i.toNat) 1 else 0,bif B 2 q.ng then bc q (F i.toNat) 2 else 0] j) (aa (z ((bif B 0 q.ng then bc q (F i.toNat) 0 else 0)=bif B 0 q.ng then bc q (F i.toNat) 0 else 0)&&(z ((bif B 1 q.ng then bc q (F i.toNat) 1 else 0)=bif B 1 q.ng then bc q (F i.toNat) 1 else 0)&&(z ((bif B 2 q.ng then bc q (F i.toNat) 2 else 0)=bif B 2 q.ng then bc q (F i.toNat) 2 else 0)&&true))) (aa (ob n K 3&&uI n K [bif B 0 q.ng then bc q (F i.toNat) 0 else 0,bif B 1 q.ng then bc q (F i.toNat) 1 else 0,bif B 2 q.ng then bc q (F i.toNat) 2 else 0] j) (aa (ob n K 3&&uI n K [bif B 0 q.ng then bc q (F i.toNat) 0 else 0,bif B 1 q.ng then bc q (F i.toNat) 1 else 0,bif B 2 q.ng then bc q (F i.toNat) 2 else 0] j) (aa (z (m<=m)&&true&&true&&z ((m+1)*8<=140737488355328)&&true) (aa (ob n K 3&&uI n K [bif B 0 q.ng then bc q (F i.toNat) 0 else 0,bif B 1 q.ng then bc q (F i.toNat) 1 else 0,bif B 2 q.ng then bc q (F i.toNat) 2 else 0] j) (aa (z ((bif B 0 q.ng then bc q (F i.toNat) 0 else 0)=bif B 0 q.ng then bc q (F i.toNat) 0 else 0)&&(z ((bif B 1 q.ng then bc q (F i.toNat) 1 else 0)=bif B 1 q.ng then bc q (F i.toNat) 1 else 0)&&(z ((bif B 2 q.ng then bc q (F i.toNat) 2 else 0)=bif B 2 q.ng then bc q (F i.toNat) 2 else 0)&&true))) (aa (aN a_ (i+1)) (zyN (m+1) (an (m+1) (λc=>bif B c m then T c else h_ 1 (f_ (0+(c-m)*1) [e_ a_ i])) g/\zyN (m+1) (an (m+1) (λc=>bif B c m then S c else h_ 3 (f_ (0+(c-m)*3) [e_ a_ (kR q (F i.toNat)),e_ a_ (lJ q (F i.toNat)),w_ (Br q (F i.toNat))])) f/\zyN q.ng (zyR q.ng (ae W) (zyN (m+1) (zyN (m+1) d))))))))))))))))))))))) False):=by subst_vars;kernel_rfl
def AH.C5(N:Nat)(f:Nat->Zv):AH:={n:=N,t:=(b_ N).foldl (λt i=>t.set i (f i)) .e}
def RO(f:Nat->Zv)(l):∀N,((b_ N).foldl (λt i=>t.set i (f i)) (.e:Tr Zv)).get l=if l<N then m_ (f l)else u_
 |0=>rfl
 |N+1=>by
  rw[List.range_succ,List.foldl_append]
  show(Tr.set _ N (f N)).get l=_
  rw[Tr.bH,RO f l N]
  grind
def AH.OI(N)(f)(l):(AH.C5 N f).get l=if l<N then f l else .dead:=by
 unfold AH.C5 AH.get
 simp only[RO]
 grind
def td{ks f key n0 s y Q}(h:kg ks f key n0 s y Q){SB σ}(ht:∀i,cR SB.t i=(cR s.t i).bD σ)(o:SB.nt=s.nt)(j:s.df=[]/\SB.df=[])
  (ro) (n) (c) (ρ) (a) (w) (q:ro=u_) (hG:c.G=II.G) (E:Sub c.G σ s.H SB.H) (m:cA c ρ SB a w):
  (aD II f key).wpIn (WF ro) n PP (λx a1 C=>x= .normal/\∃d k,St.Le n0 d y/\Q d/\cA (c.iT ρ s.H SB.H σ w) k d a1 C) a w:=by
 obtain⟨e,l,F⟩:=nH iw ks (bm PP II []) 1000 false _ _ _ h
 have u:cA (c.iT ρ s.H SB.H σ w) (ρ.fC σ) s a w:=by
  refine⟨⟨m.tmp.1.trans o,λi=>?_⟩,m.heap.iT E,?_⟩
  ·have:=m.tmp.2 i
   rw[ht]at this
   exact VR.gR _ _ this
  ·have:=m.df
   rw[j.2]at this
   rw[j.1]
   exact this
 have I:(aD II f key).wpIn (WF ro) n PP (e.post (c.iT ρ s.H SB.H σ w) (ρ.fC σ)) a w:=F ro n (c.iT ρ s.H SB.H σ w) (ρ.fC σ) a w (λ_=>q) hG u
 refine wpIn_mono I λx a1 C D=>?_
 cases e with
 |n d=>
  cases x with
  |normal=>
   obtain⟨k,_,J⟩:=D
   obtain⟨k1,k2⟩:=mF.ok (K:=Q d) l
   grind
  |_=>exact D.elim
 |x b d=>exact(l:False).elim
 |g b d=>exact(l:False).elim
 |r d=>exact(l:False).elim
 |p v d=>exact(l:False).elim
def pJ{c ρ SB a w}{s:St}{σ}(m:cA c ρ SB a w)(o:Sub c.G σ s.H SB.H){d b a1 k}(g:cA (c.iT ρ s.H SB.H σ w) b d a1 k){SB'}(t:Eb σ s.H d.H SB.H SB'.H)(ht:∀i,cR SB'.t i=(cR d.t i).bD σ)(h:SB'.nt=d.nt)(f:d.df=[]/\SB'.df=[]):
  ∃ρ',Ext ρ ρ'/\(∀l,ρ' (σ l)=b l)/\cA c ρ' SB' a1 k:=by
 obtain⟨hx,p,j⟩:=m.heap.KY o g.heap t
 refine⟨_,hx,p,⟨g.tmp.1.trans h.symm,λi=>?_⟩,j,?_⟩
 ·rw[ht]
  exact VR.bD (show uy σ b (ρ.back b s.H.n SB.H.n)from⟨ZD,λ_ _ e=>e⟩) _ _ (g.tmp.2 i)
 ·have:=g.df
  rw[f.1]at this
  rw[f.2]
  exact this
def oe(i:Nat):List AV:=[.ptr (17+3*i) 0 0 0]
def oO{ρ l v}:VR ρ (.ptr l 0 0 0) v↔ ∃b N,ρ l=m_ (b,N)/\v= .pointer (m_ ⟨b,0,u_⟩):=by
 rfl
def C6{c:zS}{ρ:Env}{w:World}{H:AH}{n:Nat}{K:Nat->List Int}(t:Rel c ρ H w)(d:H.get 15= .cT n K (λj=> .ptr (17+3*j) 0 0 0) u_)(p:H.get 16= .rows n 1 oe (.ty 89)):
  ∃b:Nat->Nat,(∀j,j<n->∃N,ρ (17+3*j)=m_ (b j,N))/\∀foc:Option (Nat×AV),(∀j a,foc=m_ (j,a)->j<n/\a= .ptr (17+3*j) 0 0 0)->
   Rel c ρ ((H.set 15 (.cT n K (λj=> .addr (b j) 0) foc)).set 16 (.rows n 1 (eW b) (.ty 89))) w:=by
 have q:=t.dF 15
 rw[d]at q
 obtain⟨L,M,u,O,P,y,_⟩:=q
 have ex:∀j,∃b,j<n->∃N,ρ (17+3*j)=m_ (b,N):=λj=>by
  by_cases s:j<n
  ·obtain⟨b,N,k,_⟩:=oO.1 (y j s)
   simp_all
  ·exact⟨0,λh=>absurd h s⟩
 obtain⟨b,x⟩:=A_ ex
 have conv:∀j,j<n->∀v,VR ρ (.ptr (17+3*j) 0 0 0) v->VR ρ (.addr (b j) 0) v:=λj s v C=>by
  obtain⟨Q,R,k,rfl⟩:=oO.1 C
  obtain⟨N,m⟩:=x j s
  rw[k]at m
  cases m
  simp only[VR]
 refine⟨b,x,λfoc S=>?_⟩
 have g:∀l,((H.set 15 (.cT n K (λj=> .addr (b j) 0) foc)).set 16 (.rows n 1 (eW b) (.ty 89))).get l=if l=16 then .rows n 1 (eW b) (.ty 89)else if l=15 then .cT n K (λj=> .addr (b j) 0) foc else H.get l:=λl=>by
  rw[AH.bH,AH.bH]
 refine t.alike A (λl hl=>?_) (λl=>?_) λl=>?_
 ·rw[g]
  by_cases r:l=16
  ·subst r
   rw[if_pos A]
   rw[p]at hl
   refine⟨λ_ _=>rfl,?_⟩
   rcases hl.2 with⟨k,m⟩|⟨bb,N,vs,rest,el,fr,k,m,D,E,o⟩
   ·left
    refine⟨?_,m⟩
    cases n with
    |zero=>rfl
    |succ n=>
     have:=congrArg v_ k
     rw[bE (n:=n+1) (e:=1) (f:=oe) λ_ _=>rfl]at this
     simp at this
   ·right
    refine⟨bb,N,vs,rest,el,fr,k,m,D,?_,o⟩
    obtain⟨q1,F⟩:=mT (f:=oe) (λ_=>rfl) E
    refine oI q1 λi hi=>?_
    obtain⟨v,G,I⟩:=F i hi
    exact⟨v,G,aU.aL.2 ⟨conv i hi v (aU.aL.1 I).1,zH⟩⟩
  ·rw[if_neg r]
   by_cases o:l=15
   ·subst o
    rw[if_pos A]
    rw[d]at hl
    obtain⟨bb,N,u,f1,J,T,_⟩:=hl
    refine⟨bb,N,u,f1,J,ZD,λj a e=>?_⟩
    grind
   grind
 ·rw[g]
  by_cases r:l=16
  ·subst r;rw[if_pos A,p];rfl
  ·rw[if_neg r]
   by_cases o:l=15
   ·subst o;rw[if_pos A,d];rfl
   ·rw[if_neg o]
 grind
def G8{c:zS}{ρ:Env}{w:World}{H:AH}{n L:Nat}{K:Nat->List Int}{P:Nat->AV}{foc:Option (Nat×AV)}{R:Nat->List AV}(o:Rel c ρ H w)(hL:L≠15)(b:H.get 15= .cT n K P foc)(d:H.get L= .rows n 1 R (.ty 89))(h:∀i,(R i).length=1)
  (C:∀j,j<n->foc=m_ (j,.ptr (17+3*j) 0 0 0)∨∀v,VR ρ (P j) v->VR ρ (.ptr (17+3*j) 0 0 0) v) (p:∀j,j<n->∀v,aU ρ (R j) [v]->VR ρ (.ptr (17+3*j) 0 0 0) v):
  Rel c ρ ((H.set 15 (.cT n K (λj=> .ptr (17+3*j) 0 0 0) u_)).set L (.rows n 1 oe (.ty 89))) w:=by
 have g:∀l,((H.set 15 (.cT n K (λj=> .ptr (17+3*j) 0 0 0) u_)).set L (.rows n 1 oe (.ty 89))).get l=if l=L then .rows n 1 oe (.ty 89)else if l=15 then .cT n K (λj=> .ptr (17+3*j) 0 0 0) u_ else H.get l:=λl=>by
  rw[AH.bH,AH.bH]
 refine o.alike A (λl hl=>?_) (λl=>?_) λl=>?_
 ·rw[g]
  by_cases k:l=L
  ·subst k
   rw[if_pos A]
   rw[d]at hl
   refine⟨λ_ _=>rfl,?_⟩
   rcases hl.2 with⟨h1,m⟩|⟨bb,N,vs,rest,el,fr,h1,m,q,r,a⟩
   ·left
    refine⟨?_,m⟩
    cases n with
    |zero=>rfl
    |succ n=>
     have:=congrArg v_ h1
     rw[bE (n:=n+1) (e:=1) (f:=R) λi _=>h i]at this
     simp at this
   ·right
    refine⟨bb,N,vs,rest,el,fr,h1,m,q,?_,a⟩
    obtain⟨q1,s⟩:=mT h r
    refine oI q1 λi hi=>?_
    obtain⟨v,t,x⟩:=s i hi
    exact⟨v,t,aU.aL.2 ⟨p i hi v x,zH⟩⟩
  ·rw[if_neg k]
   by_cases a:l=15
   ·subst a
    rw[if_pos A]
    rw[b]at hl
    obtain⟨bb,N,u,f1,y,D,E⟩:=hl
    refine⟨bb,N,u,f1,y,λi hi=>?_,zA⟩
    grind
   grind
 ·rw[g]
  by_cases k:l=L
  ·subst k;rw[if_pos A,d];rfl
  ·rw[if_neg k]
   by_cases a:l=15
   ·subst a;rw[if_pos A,b];rfl
   ·rw[if_neg a]
 grind
end
end Go.Sx
