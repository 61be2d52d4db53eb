/- Lemmas, part 30. -/
import Derived.Test.YtoijalagmmgkbaaGreatDoorX29
set_option linter.all false
set_option linter.defProp false
set_option maxRecDepth 1000000
namespace Go.Sx
open Go
open Nat renaming blt->M,beq->c_,ble->r_,zero_le->z_,below->D_
open Decidable renaming decide->z
open Go.IntKind renaming i64->a_
open Int renaming ofNat->b_,toNat->i_
open List renaming range->d_,drop->e_,take->f_,all->k_,ne_nil_of_mem->o_,length_append->p_,all_eq_true->q_,map_cons->v_,length->y_
open AV renaming int->g_,str->n_,ptr->s_,ab->u_,le->w_,bool->A_,any->C_,bD->F_,addr->H_
open And renaming intro->h_
open Tr renaming ofList->j_,bH->G_
open Classical renaming byContradiction->l_,axiomOfChoice->E_
open Option renaming some->m_,none->t_
noncomputable section
def wV(q:Query):Query:=⟨q.nw,bG (au q.C),q.ng,λj=>q.G j,q.a,q.fl,q.nu,q.de,q.top⟩
def wW(q)(x):∀j,mf (wV q) x j=mf q x j
 |0=>rfl
 |j+1=>by
  show j9 (wV q) x j (mf (wV q) x j)=j9 q x j (mf q x j)
  rw[wW q x j];rfl
def Jy(q)(x):gk (wV q) x=gk q x:=by
 unfold gk lT
 have:dC (wV q) x=dC q x:=wW q x q.nw
 rw[this]
def C2{n p}(h:∀i,p i=true):k_ (List.range.loop n []) p=true:=Y
def Jz(q)(x):jA (wV q) x=jA q x:=by
 unfold jA lT
 have:dC (wV q) x=dC q x:=wW q x q.nw
 rw[this]
structure G6 (e:Query) (x:ay) (b:Nat) (s:Ug):Prop where
 other:s.c=true->∀k,k<b->e.C k 0≠8->Nn (e.C k 1) (gJ x (e.C k 0) 0) (e.C k 2)=true
 own:∀a,s.lo<=a->a<=s.hi->(∀m,m<s.n->s.K m≠a)->x.l<=a/\a<=x.h/\∀k,k<b->e.C k 0=8->Nn (e.C k 1) a (e.C k 2)=true
 low:s.lo=x.l∨∃k,k<b/\s.lo=e.C k 2
 out:∀m,m<s.n->∃k,k<b/\s.K m=e.C k 2
def NE{v K n}:gv v K n=true↔ ∃m,m<n/\K m=v:=by
 unfold gv
 grind
def NF(q)(x)(w:∀j,j<q.nw->1<=q.C j 1/\q.C j 1<=4):∀j,j<=q.nw->G6 q x j (mf q x j)
 |0,_=>⟨O,λd f o _=>⟨f,o,O⟩,.inl A,λm c=>absurd c (lZ _)⟩
 |j+1,E=>by
  have g:=NF q x w j O
  have F:=w j O
  show G6 q x (j+1) (j9 q x j (mf q x j))
  generalize mf q x j=s at g
  have i:∀(b:Prop) [Decidable b],(b->gv (q.C j 2) s.K s.n=false)->∀m,m<(if b then s.n+1 else s.n)->(b/\m=s.n/\(if b then dY s.n s.K (q.C j 2)else s.K) m=q.C j 2)∨(m<s.n/\(if b then dY s.n s.K (q.C j 2)else s.K) m=s.K m):=by
   intro b _ _ m c
   by_cases a:b
   ·simp only[a,if_true]at c⊢
    by_cases e:m=s.n
    ·exact .inl ⟨trivial,e,by subst e;simp[dY]⟩
    ·refine .inr ⟨O,?_⟩
     have:c_ m s.n=false:=by
      cases h:c_ m s.n with
      |false=>rfl
      |true=>simp_all
     simp[dY,this]
   ·grind
  refine⟨λh k p y=>?_,λd f o r=>?_,?_,λm c=>?_⟩
  ·simp only[j9,bf,Bool.or_eq_true,bn]at h
   by_cases e:k=j
   grind
   ·exact g.other h.1 k O y
  ·simp only[j9]at f o r
   have t:s.lo<=d:=by
    revert f;split
    ·split<;>omega
    ·omega
   have u:d<=s.hi:=by
    revert o;split
    ·split<;>omega
    ·omega
   have B:∀m,m<s.n->s.K m≠d:=λm c=>by
    by_cases a:q.C j 0=8/\q.C j 1=2/\gv (q.C j 2) s.K s.n=false
    ·have:=r m (by rw[if_pos a];omega)
     rw[if_pos a]at this
     have e:c_ m s.n=false:=by
      cases h:c_ m s.n with
      |false=>rfl
      |true=>simp_all
     simpa [dY,e]using this
    grind
   obtain⟨a1,a2,G⟩:=g.own d t u B
   refine⟨a1,a2,λk p y=>?_⟩
   by_cases e:k=j
   ·subst e
    unfold Nn
    rw[bn]
    have v:q.C k 1=1∨q.C k 1=2∨q.C k 1=3∨q.C k 1=4:=O
    rcases v with h|h|h|h
    omega
    ·right;left
     refine⟨h,λe=>?_⟩
     by_cases a:gv (q.C k 2) s.K s.n=true
     ·obtain⟨m,c,D⟩:=NE.1 a
      grind
     ·have a:q.C k 0=8/\q.C k 1=2/\gv (q.C k 2) s.K s.n=false:=by grind
      have:=r s.n (by rw[if_pos a];omega)
      rw[if_pos a]at this
      exact this (by simp[dY,e])
    all_goals omega
   grind
  ·simp only[j9]
   have old:s.lo=x.l∨∃k,k<j+1/\s.lo=q.C k 2:=g.low.imp id λ⟨k,p,e⟩=>⟨k,O,e⟩
   grind
  ·simp only[j9]at c⊢
   rcases i (q.C j 0=8/\q.C j 1=2/\gv (q.C j 2) s.K s.n=false) (λh=>h.2.2) m c with⟨_,_,e⟩|⟨f,e⟩
   grind
   ·obtain⟨k,p,D⟩:=g.out m f
    grind
def G7(lo:Int)(K:Nat->Int)(S:List Nat):∀n:Nat,(∀d,lo<=d->d<lo+n->∃m,m∈S/\K m=d)->n<=(S.filter λm=>z (lo<=K m)&&z (K m<lo+n)).length
 |0,_=>z_ _
 |n+1,h=>by
  have b:=G7 lo K S n Y
  obtain⟨m,c,e⟩:=h (lo+n) O O
  have split:∀S:List Nat,(S.filter λm=>z (lo<=K m)&&z (K m<lo+(n+1:Nat))).length=(S.filter λm=>z (lo<=K m)&&z (K m<lo+n)).length+(S.filter λm=>z (K m=lo+n)).length:=by
   intro S
   induction S with
   |nil=>rfl
   |cons a S b=>
    grind
  rw[split S]
  have:0<(S.filter λm=>z (K m=lo+n)).length:=List.length_pos_iff.2 (o_ (List.mem_filter.2 ⟨c,by simp[e]⟩))
  omega
def QN{q x}(hq:Hl q=true)(c:gk q x=true):∃d,(xG x d&&dV q x d)=true/\(d=x.l∨∃k,k<q.nw/\(d=q.C k 2∨d=q.C k 2+1)):=by
 obtain⟨_,B⟩:=fQ hq
 have g:=NF q x ZD q.nw (dw _)
 unfold gk lT fy rL at c
 simp only[bf,bn]at c
 obtain⟨p,v⟩:=c
 have g:G6 q x q.nw (dC q x):=g
 generalize dC q x=s at g p v
 apply l_
 intro f
 have key:∀n:Nat,∀d,s.lo<=d->d<s.lo+n->d<=s.hi->∃m,m<s.n/\s.K m=d:=by
  intro n
  induction n with
  |zero=>intro d i w;omega
  |succ n r=>
   intro d i w t
   by_cases e:d<s.lo+n
   ·exact r d i e t
   apply l_
   intro a
   have a:∀m,m<s.n->s.K m≠d:=ZD
   obtain⟨a1,a2,D⟩:=g.own d i t a
   refine f ⟨d,?_,?_⟩
   ·simp only[bf]
    refine⟨by unfold xG;grind,?_⟩
    unfold dV
    rw[q_]
    intro k b
    have b:=List.mem_range.1 b
    unfold gG
    by_cases o:q.C k 0=8
    ·have:gJ x (q.C k 0) d=d:=by rw[o];rfl
     grind
    ·have:gJ x (q.C k 0) d=gJ x (q.C k 0) 0:=by
      unfold gJ
      simp only[o,if_false]
     rw[this];exact g.other p k b o
   ·by_cases E:n=0
    ·have:d=s.lo:=by omega
     rcases g.low with h|⟨k,b,h⟩
     all_goals grind
    ·obtain⟨m,y,e1⟩:=r (d-1) O O O
     obtain⟨k,b,F⟩:=g.out m y
     grind
 have hn:0<s.hi-s.lo+1:=by
  have:(0:Int)<=(((d_ s.n).filter λj=>z (s.lo<=s.K j)&&z (s.K j<=s.hi)).length:Int):=Int.natCast_nonneg _
  omega
 have u:=G7 s.lo s.K (d_ s.n) (s.hi-s.lo+1).toNat Y
 grind
def qS(q:Query)(x:ay)(d:Int):Bool:=xG x d&&dV q x d
def Fu(q)(x)(c)(D)(N)(V)(n)(i b j)(m:Nat)(v:j=(m:Int))(w:m<3)(p:aI 3 q.nw (au q.C)=true)(s:aI 1 q.ng (aR q.G)=true)(hq:Hl q=true)(hx:bB x=true)
  (y:N j<=1000) (f:qS q x (b-1+m)=true->N (j+1)=N j+1/\V (N j)=b-1+m) (d:qS q x (b-1+m)=false->N (j+1)=N j) (Q) (hQ:Q):
  kr [mg] [] 92 11001 39 (oN q x c D N V i b) (λ_=>mV q x c D n V i) (λj=>j+1) Q j:=by
 rw[Yf _ _ _ _ _ _ _ _ _ _ _ A]
 have e1:i_ j=m:=O
 have t:b_ (0+i_ j)=(m:Int):=by rw[e1,Nat.zero_add];rfl
 have hq':Hl ⟨q.nw,λj k=>bV (au q.C j) k,q.ng,λj=>q.G j,q.a,q.fl,q.nu,q.de,q.top⟩=true:=hq
 have u:dV ⟨q.nw,λj k=>bV (au q.C j) k,q.ng,λj=>q.G j,q.a,q.fl,q.nu,q.de,q.top⟩ x (b-1+m)=dV q x (b-1+m):=rfl
 rw[t,e1,hq',u,hx]
 have hi:aN a_ (j+1)=true:=aq O O
 have tail:∀(k:Nat),k=N (j+1)->(an k (ae V) (ae V))->ax k (N (j+1)) (an k (ae V) (ae V)/\True):=λk e r=>YG e ⟨r,trivial⟩
 refine Zg (λ_=>?_) O
 refine cC _ _ Y (cC _ _ Y (cC _ _ (by show(aI 3 q.nw (au q.C)&&aI 1 q.ng (aR q.G)&&true&&true)=true;rw[p,s];rfl) ?_))
 cases g:xG x (b-1+m)with
 |true=>
  refine Zg (λ_=>?_) λh=>absurd A h
  have o:qS q x (b-1+m)=dV q x (b-1+m):=by unfold qS;rw[g];rfl
  rw[o]at f d
  cases l:dV q x (b-1+m)with
  |true=>
   obtain⟨k1,k2⟩:=f l
   have rows:=ey V (N j) (b-1+m) k2.symm
   refine cC _ _ Y (cC _ _ hi ?_)
   have k1:=k1.symm
   repeat' (first|exact hQ|exact rows|exact bL _ _|exact bC _ _|exact bO _ _|exact aZ|with_reducible rfl|refine Zf A ?_|refine YG k1 ?_|refine YG A ?_|refine Zi A ?_|refine h_ ?_ ?_)
  |false=>
   have k1:=(d l).symm
   refine cC _ _ hi ?_
   exact ZC
 |false=>
  refine Zg zA λ_=>?_
  have k1:=(d (by unfold qS;rw[g];rfl)).symm
  refine cC _ _ hi ?_
  exact ZC
def NG(q)(x)(c)(D)(N)(V)(n)(i a j)(b:j=3)(hn:N j=n)(Q):
  kr [mg] [] 92 11001 39 (oN q x c D N V i a) (λ_=>mV q x c D n V i) (λj=>j+1) Q j:=by
 rw[Yf _ _ _ _ _ _ _ _ _ _ _ A]
 refine Zg O λ_=>?_
 repeat' (first|exact trivial|exact bL _ _|exact bC _ _|exact bO _ _|exact aZ|with_reducible rfl|refine Zf A ?_|refine YG hn ?_|refine YG A ?_|refine Zi A ?_|refine h_ ?_ ?_)
def XY(a):an 3 (fW [.int a_ (a-1),.int a_ a,.int a_ (a+1)] 1) (ae λk=>a-1+b_ k):=λk b σ=>by
 match k,b with
 |0,_=>exact⟨⟨rfl,by show a-1=a-1+(0:Int);omega⟩,trivial⟩
 |1,_=>exact⟨⟨rfl,by show a=a-1+(1:Int);omega⟩,trivial⟩
 |2,_=>exact⟨⟨rfl,by show a+1=a-1+(2:Int);omega⟩,trivial⟩
 |k+3,h=>omega
def C3(q)(x)(c)(D)(N a)(V)(n b)(i)(m:Nat)(hi:i=(m:Int))(e:m<q.nw+2)(hn:q.nw<=6)(f : -1<=D m 2/\D m 2<=4398046511104)
  (hl:eu PP II false (aD II 92 11001) 39 (oN q x c D a V i (D i.toNat 2) 0) (mV q x c D b V i)) (k1:N i=a 0) (k2:b=N (i+1)) (Q) (hQ:Q):
  kr [mg] [(11001,39,oN q x c D a V i (D i.toNat 2) 0,mV q x c D b V i)] 92 8001 36 (C1 q x c D N V) (λ_=>xZ q x c n V) (λj=>j+1) Q i:=by
 rw[wU]
 have e1:i_ i=m:=O
 have g:b_ (q.nw+2)=(q.nw:Int)+2:=rfl
 rw[e1]at hl⊢
 have c3:=XY (D m 2)
 refine Zg (λ_=>?_) O
 refine cC _ _ Y (cC _ _ Y (cC _ _ (aq O O) (cC _ _ (aq O O) ⟨hl,?_⟩)))
 have d:aN a_ (i+1)=true:=aq O O
 repeat' (first|exact hQ|exact c3|exact bL _ _|exact bC _ _|exact bO _ _|exact aZ|with_reducible rfl|refine Zf A ?_|refine YG k1 ?_|refine YG k2 ?_|refine YG A ?_|refine Zi A ?_|refine h_ ?_ ?_|refine cC _ _ d ?_)
def JA(q)(x)(c)(D)(N a)(V)(n b)(i)(hi:i=((q.nw+2:Nat):Int))(k1:N i=n)(Q):
  kr [mg] [(11001,39,oN q x c D a V i (D i.toNat 2) 0,mV q x c D b V i)] 92 8001 36 (C1 q x c D N V) (λ_=>xZ q x c n V) (λj=>j+1) Q i:=by
 rw[wU]
 have d:b_ (q.nw+2)=((q.nw+2:Nat):Int):=rfl
 refine Zg O λ_=>?_
 repeat' (first|exact trivial|exact bL _ _|exact bC _ _|exact bO _ _|exact aZ|with_reducible rfl|refine Zf A ?_|refine YG k1 ?_|refine YG A ?_|refine Zi A ?_|refine h_ ?_ ?_)
def rT(q:Query)(x:ay)(k:Nat):Int:=cY q x (k/3) 2-1+((k%3:Nat):Int)
def NH(q:Query)(x:ay)(k:Nat):List Int:=((d_ k).map (rT q x)).filter (qS q x)
def ib(q:Query)(x:ay)(k:Nat):Nat:=(NH q x k).length
def jQ(q:Query)(x:ay):Nat:=ib q x (3*(q.nw+2))
def fT(q:Query)(x:ay)(m:Nat):Int:=(NH q x (3*(q.nw+2))).getD m 0
def A2(q)(x)(k n):NH q x (k+n)=NH q x k++((d_ n).map λj=>rT q x (k+j)).filter (qS q x):=by
 unfold NH
 rw[List.range_add,List.map_append,List.filter_append,List.map_map];rfl
def QO{q x k}(h:qS q x (rT q x k)=true):ib q x (k+1)=ib q x k+1:=by
 unfold ib;rw[A2,p_];simp[h]
def Uu{q x k}(h:qS q x (rT q x k)=false):ib q x (k+1)=ib q x k:=by
 unfold ib;rw[A2,p_];simp[h]
def NI(q)(x)(k):ib q x k<=k:=by
 unfold ib NH
 grind
def Uv{q x k}(b:k<3*(q.nw+2))(h:qS q x (rT q x k)=true):fT q x (ib q x k)=rT q x k:=by
 unfold fT ib
 obtain⟨r,a⟩:∃r,3*(q.nw+2)=k+(r+1):=⟨3*(q.nw+2)-k-1,O⟩
 rw[a,A2,List.range_succ_eq_map,v_,List.filter_cons,Nat.add_zero,h]
 simp
def rU(q)(x)(i j)(a:j<3):rT q x (3*i+j)=cY q x i 2-1+(j:Int):=by
 unfold rT
 grind
def A3{q x}(hq:Hl q=true)(hx:bB x=true)(m)(a:m<q.nw+2): -1<=cY q x m 2/\cY q x m 2<=4398046511104:=by
 obtain⟨_,b⟩:=fQ hq
 unfold bB at hx
 simp only[bf,bn]at hx
 unfold cY
 grind
def JB(q)(x)(c)(i)(hi:i<q.nw+2)(e:aI 3 q.nw (au q.C)=true)(f:aI 1 q.ng (aR q.G)=true)(hq:Hl q=true)(hx:bB x=true):
  eu PP II false (aD II 92 11001) 39 (oN q x c (cY q x) (λj=>ib q x (3*i+j.toNat)) (fT q x) (i:Int) (cY q x i 2) 0) (mV q x c (cY q x) (ib q x (3*(i+1))) (fT q x) (i:Int)):=by
 have hn:=(fQ hq).1
 refine eu.wL [mg] (n:=3) A λj b Q hQ=>?_
 by_cases a:j<3
 ·have e1:((j:Int)).toNat=j:=by omega
  have d:((j:Int)+1).toNat=j+1:=O
  have g:=NI q x (3*i+j)
  refine Fu q x c (cY q x) _ (fT q x) _ (i:Int) (cY q x i 2) (j:Int) j A a e f hq hx ?_ (λh=>?_) (λh=>?_) Q (hQ a)
  grind
  ·rw[<-rU q x i j a]at h⊢
   show ib q x (3*i+((j:Int)+1).toNat)=ib q x (3*i+((j:Int)).toNat)+1/\fT q x (ib q x (3*i+((j:Int)).toNat))=_
   rw[e1,d]
   exact⟨QO h,Uv O h⟩
  ·rw[<-rU q x i j a]at h
   show ib q x (3*i+((j:Int)+1).toNat)=ib q x (3*i+((j:Int)).toNat)
   rw[e1,d]
   exact Uu h
 ·have b:j=3:=by omega
  subst b
  exact NG q x c (cY q x) _ (fT q x) _ (i:Int) (cY q x i 2) 3 A A _
def Fv(q)(x)(c)(b:aI 3 q.nw (au q.C)=true)(d:aI 1 q.ng (aR q.G)=true)(hq:Hl q=true)(hx:bB x=true):
  eu PP II false (aD II 92 8001) 36 (C1 q x c (cY q x) (λi=>ib q x (3*i.toNat)) (fT q x) 0) (xZ q x c (jQ q x) (fT q x)):=by
 have hn:=(fQ hq).1
 have key:=eu.Vk (ι:=Nat) Hs [mg] 1000 (λi=>[(11001,39,oN q x c (cY q x) (λj=>ib q x (3*i+j.toNat)) (fT q x) (i:Int) (cY q x ((i:Int)).toNat 2) 0,mV q x c (cY q x) (ib q x (3*(i+1))) (fT q x) (i:Int))]) (c:=aD II 92 8001) (ir:=false) 36 (λi=>i<=q.nw+2) (λi=>C1 q x c (cY q x) (λi=>ib q x (3*i.toNat)) (fT q x) (i:Int)) (λ_=>xZ q x c (jQ q x) (fT q x)) (λi=>q.nw+2-i) (λi=>i+1) 0 A (z_ _) λi hi=>?_
 ·exact key
 have hi:i<=q.nw+2:=hi
 have e1:((i:Int)).toNat=i:=O
 have e:((i:Int)+1).toNat=i+1:=O
 by_cases a:i<q.nw+2
 ·refine C3 q x c (cY q x) _ _ (fT q x) _ _ (i:Int) i A a hn (A3 hq hx i a) ?_ ?_ ?_ ((i+1<=q.nw+2)/\q.nw+2-(i+1)<q.nw+2-i/\(xZ q x c (jQ q x) (fT q x)).pick=(xZ q x c (jQ q x) (fT q x)).pick) Y
  ·rw[e1];exact JB q x c i a b d hq hx
  all_goals rfl
 ·have hi:i=q.nw+2:=by omega
  subst hi
  refine JA q x c (cY q x) _ _ (fT q x) _ _ _ A ?_ _
  rfl
def kR(q:Query)(x:ay):Int:=match gk q x with
 |false=>0
 |true=>if q.a=1 then 1 else if q.fl=7 then x.b else match jA q x with|true=>x.l|false=>jc (fT q x) (jQ q x)
def lJ(q:Query)(x:ay):Int:=match gk q x with
 |false=>0
 |true=>if q.a=1 then 1 else if q.fl=7 then x.b else match jA q x with|true=>x.h|false=>cG (fT q x) (jQ q x)
def Br(q:Query)(x:ay):Bool:=gk q x&&jA q x
def QP{q x k d}(h:d∈NH q x k):qS q x d=true:=(List.mem_filter.1 h).2
def wX{q:Query}{x:ay}(hq:Hl q=true)(a:gk q x=true):0<jQ q x:=by
 obtain⟨d,b,c⟩:=QN hq a
 have:d∈NH q x (3*(q.nw+2)):=by
  refine List.mem_filter.2 ⟨?_,b⟩
  have mk:∀i j:Nat,i<q.nw+2->j<3->d=cY q x i 2-1+(j:Int)->d∈(d_ (3*(q.nw+2))).map (rT q x):=λi j hi f e=>
   List.mem_map.2 ⟨3*i+j,Y,(rU q x i j f).trans e.symm⟩
  rcases c with h|⟨k,hk,h|h⟩
  ·refine mk q.nw 1 O O ?_
   unfold cY
   omega
  ·refine mk k 1 O O ?_
   unfold cY
   omega
  ·refine mk k 2 O O ?_
   unfold cY
   omega
 exact List.length_pos_iff.2 (o_ this)
def NJ(q)(x):an (q.nw+2) (λi=>bif M i q.nw then au (bG (au q.C)) i else f_ 3 (e_ (0+(i-q.nw)*3) [.int a_ 0,.int a_ 0,.int a_ x.l,.int a_ 0,.int a_ 0,.int a_ x.h])) (au (cY q x)):=λi hi σ=>by
 show bt.le σ (bif M i q.nw then au (bG (au q.C)) i else f_ 3 (e_ (0+(i-q.nw)*3) [.int a_ 0,.int a_ 0,.int a_ x.l,.int a_ 0,.int a_ 0,.int a_ x.h])) (au (cY q x) i)
 by_cases h:i<q.nw
 ·rw[eV h]
  refine⟨⟨rfl,?_⟩,⟨rfl,?_⟩,⟨rfl,?_⟩,trivial⟩<;>(unfold cY;rw[if_pos h];rfl)
 ·rw[js h]
  by_cases e:i=q.nw
  ·subst e
   rw[show 0+(q.nw-q.nw)*3=0 by omega]
   refine⟨⟨rfl,?_⟩,⟨rfl,?_⟩,⟨rfl,?_⟩,trivial⟩<;>(unfold cY;simp)
  ·have:i=q.nw+1:=by omega
   subst this
   rw[show 0+(q.nw+1-q.nw)*3=3 by omega]
   refine⟨⟨rfl,?_⟩,⟨rfl,?_⟩,⟨rfl,?_⟩,trivial⟩<;>(unfold cY;rw[if_neg h];simp)
def Fw{q x}(b:gk q x=true)(a:jA q x=false):0<q.nw:=by
 refine Nat.pos_of_ne_zero λe=>?_
 have c:dC q x=⟨true,x.l,x.h,0,λ_=>0⟩:=by unfold dC;rw[e];rfl
 unfold jA lT fy rL at a
 grind
def NK{q x}(d:aI 3 q.nw (au q.C)=true)(e:aI 1 q.ng (aR q.G)=true)(hq:Hl q=true)(hx:bB x=true):
  af PP II 92 [.agg (aY q),.agg (eD x)] HO (.ret (.qP [.agg [.int a_ (kR q x),.int a_ (lJ q x),.bool (Br q x)],.bool (gk q x)]) HO):=by
 have hn:=(fQ hq).1
 refine CB (ks:=[WV,mg,G5,SJ,Mo]) (T:=[(8001,36,C1 q x (jA q x) (cY q x) (λi=>ib q x (3*i.toNat)) (fT q x) 0,xZ q x (jA q x) (jQ q x) (fT q x))]) (λσ=>⟨⟨⟨rfl,rfl⟩,⟨rfl,rfl⟩,rfl,trivial⟩,rfl,trivial⟩) ?_
 rw[ND _ _ _ _ _ _ _ _ A A A,d,e,show Hl _=true from(oH q).trans hq,hx,show gk ⟨q.nw,bG (au q.C),q.ng,λj=>q.G j,q.a,q.fl,q.nu,q.de,q.top⟩ x=gk q x from Jy q x,show jA ⟨q.nw,bG (au q.C),q.ng,λj=>q.G j,q.a,q.fl,q.nu,q.de,q.top⟩ x=jA q x from Jz q x]
 refine cC _ _ A (cC _ _ A (cC _ _ A ?_))
 have f:=NJ q x
 unfold kR lJ Br
 cases hp:gk q x with
 |false=>exact⟨rfl,rfl⟩
 |true=>
  have g:=wX hq hp
  have m:jQ q x<=3*(q.nw+2):=NI q x _
  cases k:jA q x with
  |true=>
   show ah (z (q.a=1)) _ (ah (z (q.fl=7)) _ _)
   refine Zg (λh=>?_) λh=>Zg (λc=>?_) λc=>?_
   all_goals grind
  |false=>
   have l:=Fv q x false d e hq hx
   have nw:=Fw hp k
   have a1:((k_ (List.range.loop (jQ q x) []) λi=>true)&&z (jQ q x<=jQ q x))=true:=by rw[C2 λ_=>rfl,bW (dw _)];rfl
   have a2:((k_ (List.range.loop (jQ q x) []) λi=>true)&&r_ (jQ q x) 1000000000000&&M 0 (jQ q x))=true:=by rw[C2 λ_=>rfl,kV O,eV g];rfl
   refine cC _ _ (by rw[eV nw,kV O];rfl) (cC _ _ (bW A) (cC _ _ (bW A) (cC _ _ Y ⟨l,?_⟩)))
   have b:ib q x (3*(0:Int).toNat)=0:=rfl
   generalize jQ q x=n at*
   generalize fT q x=V at*
   refine YG b (YG A ⟨f,rfl,?_⟩)
   refine Zf A (Zf A (Zf A (Zf A (Zf A (Zf A (Zf A (Zf A (Zf A (Zf A (YG A ⟨bC _ _,YG A ⟨bO _ _,Zf A (Zf A (Zi A (Zi A (Zf A ⟨aZ,YG b (Zf A (YG A ⟨rfl,?_⟩))⟩))))⟩⟩))))))))))
   refine cC _ _ a1 (cC _ _ a2 (cC _ _ a1 (cC _ _ a2 ?_)))
   refine Zg (λh=>?_) λh=>Zg (λc=>?_) λc=>?_
   all_goals grind
def qT(q:Query)(cs:List AV):Bool:=match cs with
 |[.ab nw 3 f,.ab ng 1 g,.int a_ a,.int a_ fl,.str nu,.str de,.int a_ top]=>c_ nw q.nw&&c_ ng q.ng&&((d_ nw).all λj=>match f j with|[.int a_ x,.int a_ y,.int a_ b]=>z (x=q.C j 0)&&z (y=q.C j 1)&&z (b=q.C j 2)|_=>false)&&((d_ ng).all λj=>match g j with|[.int a_ x]=>z (x=q.G j)|_=>false)&&z (a=q.a)&&z (fl=q.fl)&&z (nu=q.nu)&&z (de=q.de)&&z (top=q.top)
 |_=>false
def mi{q:Query}{cs:List AV}(h:qT q cs=true):w_ (λl=>l) (.agg cs) (.agg (aY q))/\∀σ,F_ σ (.agg cs)= .agg cs:=by
 unfold qT at h
 split at h
 ·simp only[bf,bn,q_,List.mem_range]at h
  obtain⟨⟨⟨⟨⟨⟨⟨⟨b,c⟩,d⟩,f⟩,g⟩,j⟩,k⟩,m⟩,n⟩:=h
  have b:=dE b
  have c:=dE c
  refine⟨⟨⟨b,rfl,λi hi=>?_⟩,⟨c,rfl,λi hi=>?_⟩,⟨rfl,g⟩,⟨rfl,j⟩,k,m,⟨rfl,n⟩,trivial⟩,λ_=>rfl⟩
  ·have:=d i hi
   split at this
   ·rename_i x y a e
    simp only[bf,bn]at this
    rw[e]
    exact⟨⟨rfl,this.1.1⟩,⟨rfl,this.1.2⟩,⟨rfl,this.2⟩,trivial⟩
   ·cases this
  ·have:=f i hi
   split at this
   ·rename_i x e
    rw[e]
    exact⟨⟨rfl,pT this⟩,trivial⟩
   ·cases this
 ·cases h
def jv(q):qT q [.ab q.nw 3 (au q.C),.ab q.ng 1 (aR q.G),.int a_ q.a,.int a_ q.fl,.str q.nu,.str q.de,.int a_ q.top]=true:=by
 unfold qT
 have e1:((d_ q.nw).all λj=>match au q.C j with|[.int a_ x,.int a_ y,.int a_ b]=>z (x=q.C j 0)&&z (y=q.C j 1)&&z (b=q.C j 2)|_=>false)=true:=List.all_eq_true.2 λj _=>by simp[au]
 have c:((d_ q.ng).all λj=>match aR q.G j with|[.int a_ x]=>z (x=q.G j)|_=>false)=true:=List.all_eq_true.2 λj _=>by simp[aR]
 simp_all
def ct(q:Query):Bool:=aI 3 q.nw (au q.C)&&aI 1 q.ng (aR q.G)&&Hl q
def FX{q}(h:ct q=true):aI 3 q.nw (au q.C)=true/\aI 1 q.ng (aR q.G)=true/\Hl q=true:=by
 unfold ct at h
 grind
def jW(q:Query):aC PP II:=aC.CC 92
 (λX args b=>match args with
  |[.agg cs,.agg ds]=>match OQ ds with
   |some x=>X.bq (qT q cs&&ct q&&bB x) (b (.qP [.agg [.int a_ (kR q x),.int a_ (lJ q x),.bool (Br q x)],.bool (gk q x)]))
   |_=>X.fail
  |_=>X.fail)
 λX sem hX args b h=>by
  split at h
  ·split at h
   ·rename_i x hx
    obtain⟨a,c⟩:=hX.bq _ _ h
    simp only[bf]at a
    cases fK hx
    obtain⟨r1,d,e⟩:=FX a.1.2
    obtain⟨l1,l2⟩:=mi a.1.1
    refine⟨_,c,λ_=>rfl,λσ=>?_,af.dA (NK r1 d e a.2) l1 (uY x)⟩
    show [F_ σ (.agg _),_]=_
    rw[l2];rfl
   ·exact zR
  ·exact zR
def qj(q:Query)(g:Nat):aC PP II:=aC.CC 30
 (λX args b=>match args with
  |[.agg cs,.agg ds]=>match OQ ds with
   |some x=>X.bq (qT q cs&&ct q&&bB x&&c_ q.ng g) (b (.qP [.ab g 1 (ae (aj q x)),.int a_ 0]))
   |_=>X.fail
  |_=>X.fail)
 λX sem hX args b h=>by
  split at h
  ·split at h
   ·rename_i x hx
    obtain⟨a,c⟩:=hX.bq _ _ h
    simp only[bf]at a
    cases fK hx
    obtain⟨r1,d,e⟩:=FX a.1.1.2
    obtain⟨l1,l2⟩:=mi a.1.1.1
    cases dE a.2
    refine⟨_,c,λ_=>rfl,λσ=>?_,af.dA (Uo r1 d e a.1.2) l1 (uY x)⟩
    show [F_ σ (.agg _),_]=_
    rw[l2];rfl
   ·exact zR
  ·exact zR
def tG(k:Nat)(F:Nat->ay)(out:AV)(i:Int):Tr AV:=j_ [(2,.ptr 14 0 0 0),(5,.map (m_ 15)),(6,out),(15,vo k F),(16,.int a_ (b_ k)),(17,.int a_ i)]
def hG(q:Query)(n:Nat)(a:List (Nat×eT)):AH:=hQ n ([(14,.cells (aY q) (.ty 32))]++a)
def eW(b:Nat->Nat)(i:Nat):List AV:=[.addr (b i) 0]
abbrev kg(ks:List (aC PP II))(f key n0:Nat)(s b:St)(P:St->Prop):Prop :=
 uA ks (mG PP II []) 1000 false (.code (aD II f key)) s {n:=λa=>mF n0 a b (P a),x:=λ_ _=>False,g:=λ_ _=>False,r:=λ_=>False,p:=λ_ _=>False}
def C4(n:Nat)(s:St):Prop:=match cR s.t 6 with
 | .own L _ _=>match s.H.get L with
  | .rows _ _ f _=>match s.H.get 15 with
   | .cT _ _ _ (m_ (_,.ptr g k e j))=>f n=[.ptr g k e j]
   |_=>False
  |_=>False
 |_=>False
def ui(q:Query)(k:Nat)(F:Nat->ay)(a b c:Nat)(out:AV)(i:Int):Bool->St
 |false=>{t:=tG k F out i,nt:=86,H:=hG q 17 [],df:=[]}
 |true=>{t:=tG k F out (i+1),nt:=86,H:=hG q 17 [],df:=[]}
def QQ(q:Query)(k n:Nat)(F:Nat->ay)(K:Nat->List Int)(b:Nat->Nat)(ks:List Int)(g:Nat)(W:Nat->Int)(lo hi:Int)(c:Bool)(i:Int):Bool->St
 |false=>{t:=tG k F (.own 16 n 1) i,nt:=86,H:=hG q 17 [(15,.cT n K (λj=> .addr (b j) 0) t_),(16,.rows n 1 (eW b) (.ty 89))],df:=[]}
 |true=>{t:=tG k F (.own 20 (n+1) 1) (i+1),nt:=86,H:=hG q 21 [(15,.cT (n+1) (cZ n K ks) (λj=>bif c_ j n then .any else .addr (b j) 0) (m_ (n,.ptr 17 0 0 0))),(17,.cells [.ab g 1 (ae W),.own 18 1 3,.own 19 1 1] (.ty 94)),(18,.rows 1 3 (λ_=>[.int a_ lo,.int a_ hi,.bool c]) (.ty 99)),(19,.rows 1 1 (λ_=>[.int a_ i]) (.ty 3)),(20,.rows (n+1) 1 (λj=>bif c_ j n then [.any]else eW b j) (.ty 89))],df:=[]}
def Fx(q:Query)(k n:Nat)(F:Nat->ay)(K:Nat->List Int)(b:Nat->Nat)(j g:Nat)(W:Nat->Int)(m:Nat)(S T:Nat->List AV)(a c:Nat->List AV)(i:Int):Bool->St
 |false=>{t:=tG k F (.own 16 n 1) i,nt:=86,H:=hG q 20 [(15,.cT n K (λj=> .addr (b j) 0) (m_ (j,.ptr 17 0 0 0))),(16,.rows n 1 (eW b) (.ty 89)),(17,.cells [.ab g 1 (ae W),.own 18 m 3,.own 19 m 1] (.ty 94)),(18,.rows m 3 S (.ty 99)),(19,.rows m 1 T (.ty 3))],df:=[]}
 |true=>{t:=tG k F (.own 16 n 1) (i+1),nt:=86,H:=hG q 22 [(15,.cT n K (λj=> .addr (b j) 0) (m_ (j,.ptr 17 0 0 0))),(16,.rows n 1 (eW b) (.ty 89)),(17,.cells [.ab g 1 (ae W),.own 20 (m+1) 3,.own 21 (m+1) 1] (.ty 94)),(20,.rows (m+1) 3 a (.ty 99)),(21,.rows (m+1) 1 c (.ty 3))],df:=[]}
def NL(q:Query)(k:Nat)(F:Nat->ay)(a b c:Nat)(i:Int)(l n:Nat)(Q:Prop){d}(e:d=[u_ q.nw 3 (au q.C),u_ q.ng 1 (aR q.G),g_ a_ q.a,g_ a_ q.fl,n_ q.nu,n_ q.de,g_ a_ q.top]):(kg [jW q,qj q 0] 40 4001 17 (ui q k F a b c (.own 16 n 1) i false) (ui q k F a b c (.own 16 n 1) i true) (λ_=>Q))=(ah (z (i<b_ k)) (aa (z (0<=i)&&z (i<b_ k)) (aa (qT q d&&ct q&&bB (F i.toNat)) (ah (!gk q (F i.toNat)) (aa (aN a_ (i+1)) (zyN q.nw (zyR q.nw (au q.C) (zyN q.ng (zyR q.ng (aR q.G) (zyI q.a (zyI q.fl (zyB q.nu (zyB q.de (zyI q.top (zyB [48] (zyB [49] (zyR 5 aA (zyN k ((an k (λi=>eD (F i)) λi=>eD (F i))/\zyI (i+1) (zyI (b_ k) (zyN n Q))))))))))))))))) (aa (qT q d&&ct q&&bB (F i.toNat)&&c_ q.ng 0) False)))) False):=by subst_vars;kernel_rfl
def QR(q:Query)(k n:Nat)(F:Nat->ay)(K:Nat->List Int)(b:Nat->Nat)(i:Int){d}(g:d=[u_ q.nw 3 (au q.C),u_ q.ng 1 (aR q.G),g_ a_ q.a,g_ a_ q.fl,n_ q.nu,n_ q.de,g_ a_ q.top]):(kg [jW q,qj q q.ng] 40 4001 17 (QQ q k n F K b [bif M 0 q.ng then aj q (F i.toNat) 0 else 0,bif M 1 q.ng then aj q (F i.toNat) 1 else 0,bif M 2 q.ng then aj q (F i.toNat) 2 else 0] q.ng (aj q (F i.toNat)) (kR q (F i.toNat)) (lJ q (F i.toNat)) (Br q (F i.toNat)) i false) (QQ q k n F K b [bif M 0 q.ng then aj q (F i.toNat) 0 else 0,bif M 1 q.ng then aj q (F i.toNat) 1 else 0,bif M 2 q.ng then aj q (F i.toNat) 2 else 0] q.ng (aj q (F i.toNat)) (kR q (F i.toNat)) (lJ q (F i.toNat)) (Br q (F i.toNat)) i true) (C4 n))=(ah (z (i<b_ k)) (aa (z (0<=i)&&z (i<b_ k)) (aa (qT q d&&ct q&&bB (F i.toNat)) (ah (!gk q (F i.toNat)) (aa (aN a_ (i+1)) (ax n (n+1) ((an n (eW b) λj=>bif c_ j n then [C_]else eW b j)/\ax 1 0 (ax 1 0 False)))) (aa (qT q d&&ct q&&bB (F i.toNat)&&c_ q.ng q.ng) (aa (r_ q.ng 3&&k_ (d_ q.ng) λi=>true) (aa (ln n K 3&&Kv n K [bif M 0 q.ng then aj q (F i.toNat) 0 else 0,bif M 1 q.ng then aj q (F i.toNat) 1 else 0,bif M 2 q.ng then aj q (F i.toNat) 2 else 0]) (aa (ln n K 3&&Kv n K [bif M 0 q.ng then aj q (F i.toNat) 0 else 0,bif M 1 q.ng then aj q (F i.toNat) 1 else 0,bif M 2 q.ng then aj q (F i.toNat) 2 else 0]) (aa (ln (n+1) (cZ n K [bif M 0 q.ng then aj q (F i.toNat) 0 else 0,bif M 1 q.ng then aj q (F i.toNat) 1 else 0,bif M 2 q.ng then aj q (F i.toNat) 2 else 0]) 3&&uI (n+1) (cZ n K [bif M 0 q.ng then aj q (F i.toNat) 0 else 0,bif M 1 q.ng then aj q (F i.toNat) 1 else 0,bif M 2 q.ng then aj q (F i.toNat) 2 else 0]) [bif M 0 q.ng then aj q (F i.toNat) 0 else 0,bif M 1 q.ng then aj q (F i.toNat) 1 else 0,bif M 2 q.ng then aj q (F i.toNat) 2 else 0] n) (aa (z (n<=n)&&true&&true&&z ((n+1)*8<=140737488355328)&&true) (aa (ln (n+1) (cZ n K [bif M 0 q.ng then aj q (F i.toNat) 0 else 0,bif M 1 q.ng then aj q (F i.toNat) 1 else 0,bif M 2 q.ng then aj q (F i.toNat) 2 else 0]) 3&&uI (n+1) (cZ n K [bif M 0 q.ng then aj q (F i.toNat) 0 else 0,bif M 1 q.ng then aj q (F i.toNat) 1 else 0,bif M 2 q.ng then aj q (F i.toNat) 2 else 0]) [bif M 0 q.ng then aj q (F i.toNat) 0 else 0,bif M 1 q.ng then aj q (F i.toNat) 1 else 0,bif M 2 q.ng then aj q (F i.toNat) 2 else 0] n) (aa (ln (n+1) (cZ n K [bif M 0 q.ng then aj q (F i.toNat) 0 else 0,bif M 1 q.ng then aj q (F i.toNat) 1 else 0,bif M 2 q.ng then aj q (F i.toNat) 2 else 0]) 3&&uI (n+1) (cZ n K [bif M 0 q.ng then aj q (F i.toNat) 0 else 0,bif M 1 q.ng then aj q (F i.toNat) 1 else 0,bif M 2 q.ng then aj q (F i.toNat) 2 else 0]) [bif M 0 q.ng then aj q (F i.toNat) 0 else 0,bif M 1 q.ng then aj q (F i.toNat) 1 else 0,bif M 2 q.ng then aj q (F i.toNat) 2 else 0] n) (aa (ln (n+1) (cZ n K [bif M 0 q.ng then aj q (F i.toNat) 0 else 0,bif M 1 q.ng then aj q (F i.toNat) 1 else 0,bif M 2 q.ng then aj q (F i.toNat) 2 else 0]) 3&&uI (n+1) (cZ n K [bif M 0 q.ng then aj q (F i.toNat) 0 else 0,bif M 1 q.ng then aj q (F i.toNat) 1 else 0,bif M 2 q.ng then aj q (F i.toNat) 2 else 0]) [bif M 0 q.ng then aj q (F i.toNat) 0 else 0,bif M 1 q.ng then aj q (F i.toNat) 1 else 0,bif M 2 q.ng then aj q (F i.toNat) 2 else 0] n) (aa (z ((bif M 0 q.ng then aj q (F i.toNat) 0 else 0)=bif M 0 q.ng then aj q (F i.toNat) 0 else 0)&&(z ((bif M 1 q.ng then aj q (F i.toNat) 1 else 0)=bif M 1 q.ng then aj q (F i.toNat) 1 else 0)&&(z ((bif M 2 q.ng then aj q (F i.toNat) 2 else 0)=bif M 2 q.ng then aj q (F i.toNat) 2 else 0)&&true))) (aa (ln (n+1) (cZ n K [bif M 0 q.ng then aj q (F i.toNat) 0 else 0,bif M 1 q.ng then aj q (F i.toNat) 1 else 0,bif M 2 q.ng then aj q (F i.toNat) 2 else 0]) 3&&uI (n+1) (cZ n K [bif M 0 q.ng then aj q (F i.toNat) 0 else 0,bif M 1 q.ng then aj q (F i.toNat) 1 else 0,bif M 2 q.ng then aj q (F i.toNat) 2 else 0]) [bif M 0 q.ng then aj q (F i.toNat) 0 else 0,bif M 1 q.ng then aj q (F i.toNat) 1 else 0,bif M 2 q.ng then aj q (F i.toNat) 2 else 0] n) (aa (ln (n+1) (cZ n K [bif M 0 q.ng then aj q (F i.toNat) 0 else 0,bif M 1 q.ng then aj q (F i.toNat) 1 else 0,bif M 2 q.ng then aj q (F i.toNat) 2 else 0]) 3&&uI (n+1) (cZ n K [bif M 0 q.ng then aj q (F i.toNat) 0 else 0,bif M 1 q.ng then aj q (F i.toNat) 1 else 0,bif M 2 q.ng then aj q (F i.toNat) 2 else 0]) [bif M 0 q.ng then aj q (F i.toNat) 0 else 0,bif M 1 q.ng then aj q (F i.toNat) 1 else 0,bif M 2 q.ng then aj q (F i.toNat) 2 else 0] n) (aa (ln (n+1) (cZ n K [bif M 0 q.ng then aj q (F i.toNat) 0 else 0,bif M 1 q.ng then aj q (F i.toNat) 1 else 0,bif M 2 q.ng then aj q (F i.toNat) 2 else 0]) 3&&uI (n+1) (cZ n K [bif M 0 q.ng then aj q (F i.toNat) 0 else 0,bif M 1 q.ng then aj q (F i.toNat) 1 else 0,bif M 2 q.ng then aj q (F i.toNat) 2 else 0]) [bif M 0 q.ng then aj q (F i.toNat) 0 else 0,bif M 1 q.ng then aj q (F i.toNat) 1 else 0,bif M 2 q.ng then aj q (F i.toNat) 2 else 0] n) (aa (z ((bif M 0 q.ng then aj q (F i.toNat) 0 else 0)=bif M 0 q.ng then aj q (F i.toNat) 0 else 0)&&(z ((bif M 1 q.ng then aj q (F i.toNat) 1 else 0)=bif M 1 q.ng then aj q (F i.toNat) 1 else 0)&&(z ((bif M 2 q.ng then aj q (F i.toNat) 2 else 0)=bif M 2 q.ng then aj q (F i.toNat) 2 else 0)&&true))) (aa (aN a_ (i+1)) (zyN (n+1) ((an (n+1) (λi=>bif M i n then eW b i else f_ 1 (e_ (0+(i-n)*1) [s_ 20 0 0 0])) λj=>bif c_ j n then [C_]else eW b j)/\(an 1 (fW [g_ a_ i] 1) λx=>[g_ a_ i])/\(an 1 (fW [g_ a_ (kR q (F i.toNat)),g_ a_ (lJ q (F i.toNat)),A_ (Br q (F i.toNat))] 3) λx=>[g_ a_ (kR q (F i.toNat)),g_ a_ (lJ q (F i.toNat)),A_ (Br q (F i.toNat))])/\zyN q.ng (zyR q.ng (ae (aj q (F i.toNat))) (zyN (n+1) ((∀(c:Nat),c<n+1->cZ n K [bif M 0 q.ng then aj q (F i.toNat) 0 else 0,bif M 1 q.ng then aj q (F i.toNat) 1 else 0,bif M 2 q.ng then aj q (F i.toNat) 2 else 0] c=cZ n K [bif M 0 q.ng then aj q (F i.toNat) 0 else 0,bif M 1 q.ng then aj q (F i.toNat) 1 else 0,bif M 2 q.ng then aj q (F i.toNat) 2 else 0] c/\∀(σ:Nat->Nat),w_ σ (nz n (λj=>H_ (b j) 0) (s_ 20 0 0 0) c) (bif c_ c n then C_ else H_ (b c) 0))/\zyN n (zyN q.nw (zyR q.nw (au q.C) (zyN q.ng (zyR q.ng (aR q.G) (zyI q.a (zyI q.fl (zyB q.nu (zyB q.de (zyI q.top (zyB [48] (zyB [49] (zyR 5 aA (zyN k ((an k (λi=>eD (F i)) λi=>eD (F i))/\zyI (i+1) (zyI (b_ k) (zyN (n+1) ((bif M n n then eW b n else Nat.rec (motive:=λx=>D_ (motive:=λx=>List AV->List AV) x->List AV) (λx=>[]) (λe f=>List.casesOn (motive:=λx=>D_ (motive:=λx=>List AV->List AV) (e+1)->List AV) (e_ (0+(n-n)*1) [s_ 20 0 0 0]) (λx=>[]) λhead tail x=>head::x.1 tail) 1 ⟨λx=>[],PUnit.unit⟩)=[s_ 20 0 0 0])))))))))))))))))))))))))))))))))))))))) False):=by subst_vars;kernel_rfl
def QS(q:Query)(k n:Nat)(F:Nat->ay)(K:Nat->List Int)(b:Nat->Nat)(j m:Nat)(W:Nat->Int)(S T f g:Nat->List AV)(i:Int)(Q:Prop){d}(h:d=(zyN n (zyR n (eW b) (zyN n ((∀(i:Nat),i<n->K i=K i/\∀(σ:Nat->Nat),b i=b i/\0=0)/\zyN j (zyN q.nw (zyR q.nw (au q.C) (zyN q.ng (zyR q.ng (aR q.G) (zyI q.a (zyI q.fl (zyB q.nu (zyB q.de (zyI q.top (zyB [48] (zyB [49] (zyR 5 aA (zyN k ((an k (λi=>eD (F i)) λi=>eD (F i))/\zyI (i+1) (zyI (b_ k) (zyN n Q))))))))))))))))))))){e}(l:e=[u_ q.nw 3 (au q.C),u_ q.ng 1 (aR q.G),g_ a_ q.a,g_ a_ q.fl,n_ q.nu,n_ q.de,g_ a_ q.top]):(kg [jW q,qj q q.ng] 40 4001 20 (Fx q k n F K b j q.ng W m S T f g i false) (Fx q k n F K b j q.ng W m S T f g i true) (λ_=>Q))=(ah (z (i<b_ k)) (aa (z (0<=i)&&z (i<b_ k)) (aa (qT q e&&ct q&&bB (F i.toNat)) (ah (!gk q (F i.toNat)) (aa (aN a_ (i+1)) (ax m (m+1) (an m T g/\ax m (m+1) (an m S f/\zyN q.ng (zyR q.ng (ae W) (ax m (m+1) (ax m (m+1) d))))))) (aa (qT q e&&ct q&&bB (F i.toNat)&&c_ q.ng q.ng) (aa (r_ q.ng 3&&k_ (d_ q.ng) λi=>true) (aa (ln n K 3&&uI n K [bif M 0 q.ng then aj q (F i.toNat) 0 else 0,bif M 1 q.ng then aj q (F i.toNat) 1 else 0,bif M 2 q.ng then aj q (F i.toNat) 2 else 0] j) (aa (ln n K 3&&uI n K [bif M 0 q.ng then aj q (F i.toNat) 0 else 0,bif M 1 q.ng then aj q (F i.toNat) 1 else 0,bif M 2 q.ng then aj q (F i.toNat) 2 else 0] j) (aa (ln n K 3&&uI n K [bif M 0 q.ng then aj q (F i.toNat) 0 else 0,bif M 1 q.ng then aj q (F i.toNat) 1 else 0,bif M 2 q.ng then aj q (F i.toNat) 2 else 0] j) (aa (z (m<=m)&&true&&true&&z ((m+1)*24<=140737488355328)&&true) (aa (ln n K 3&&uI n K [bif M 0 q.ng then aj q (F i.toNat) 0 else 0,bif M 1 q.ng then aj q (F i.toNat) 1 else 0,bif M 2 q.ng then aj q (F i.toNat) 2 else 0] j) (aa (z ((bif M 0 q.ng then aj q (F i.toNat) 0 else 0)=bif M 0 q.ng then aj q (F i.toNat) 0 else 0)&&(z ((bif M 1 q.ng then aj q (F i.toNat) 1 else 0)=bif M 1 q.ng then aj q (F i.toNat) 1 else 0)&&(z ((bif M 2 q.ng then aj q (F i.toNat) 2 else 0)=bif M 2 q.ng then aj q (F i.toNat) 2 else 0)&&true))) (aa (ln n K 3&&uI n K [bif M 0 q.ng then aj q (F i.toNat) 0 else 0,bif M 1 q.ng then aj q (F i.toNat) 1 else 0,bif M 2 q.ng then aj q (F i.toNat) 2 else 0] j) (aa (ln n K 3&&uI n K [bif M 0 q.ng then aj q (F i.toNat) 0 else 0,bif M 1 q.ng then aj q (F i.toNat) 1 else 0,bif M 2 q.ng then aj q (F i.toNat) 2 else 0] j) (aa (z (m<=m)&&true&&true&&z ((m+1)*8<=140737488355328)&&true) (aa (ln n K 3&&uI n K [bif M 0 q.ng then aj q (F i.toNat) 0 else 0,bif M 1 q.ng then aj q (F i.toNat) 1 else 0,bif M 2 q.ng then aj q (F i.toNat) 2 else 0] j) (aa (z ((bif M 0 q.ng then aj q (F i.toNat) 0 else 0)=bif M 0 q.ng then aj q (F i.toNat) 0 else 0)&&(z ((bif M 1 q.ng then aj q (F i.toNat) 1 else 0)=bif M 1 q.ng then aj q (F i.toNat) 1 else 0)&&(z ((bif M 2 q.ng then aj q (F i.toNat) 2 else 0)=bif M 2 q.ng then aj q (F i.toNat) 2 else 0)&&true))) (aa (aN a_ (i+1)) (zyN (m+1) (an (m+1) (λc=>bif M c m then T c else f_ 1 (e_ (0+(c-m)*1) [g_ a_ i])) g/\zyN (m+1) (an (m+1) (λc=>bif M c m then S c else f_ 3 (e_ (0+(c-m)*3) [g_ a_ (kR q (F i.toNat)),g_ a_ (lJ q (F i.toNat)),A_ (Br q (F i.toNat))])) f/\zyN q.ng (zyR q.ng (ae W) (zyN (m+1) (zyN (m+1) d))))))))))))))))))))))) False):=by subst_vars;kernel_rfl
def AH.C5(N:Nat)(f:Nat->eT):AH:={n:=N,t:=(d_ N).foldl (λt i=>t.set i (f i)) .e}
def Yi(f:Nat->eT)(l):∀N,((d_ N).foldl (λt i=>t.set i (f i)) (.e:Tr eT)).get l=if l<N then m_ (f l)else t_
 |0=>rfl
 |N+1=>by
  rw[List.range_succ,List.foldl_append]
  show(Tr.set _ N (f N)).get l=_
  rw[G_,Yi f l N]
  grind
def AH.zr(N)(f)(l):(AH.C5 N f).get l=if l<N then f l else .dead:=by
 unfold AH.C5 AH.get
 simp only[Yi]
 grind
def td{ks f key n0 s y Q}(h:kg ks f key n0 s y Q){SB σ}(ht:∀i,cR SB.t i=(cR s.t i).bD σ)(o:SB.nt=s.nt)(j:s.df=[]/\SB.df=[])
  (ro) (n) (c) (ρ) (a) (w) (q:ro=t_) (hG:c.G=II.G) (D:Sub c.G σ s.H SB.H) (m:cA c ρ SB a w):
  (aD II f key).wpIn (WF ro) n PP (λx a1 B=>x= .normal/\∃d k,St.Le n0 d y/\Q d/\cA (c.iT ρ s.H SB.H σ w) k d a1 B) a w:=by
 obtain⟨e,l,E⟩:=nH Hs ks (bm PP II []) 1000 false _ _ _ h
 have u:cA (c.iT ρ s.H SB.H σ w) (ρ.fC σ) s a w:=by
  refine⟨⟨m.tmp.1.trans o,λi=>?_⟩,m.heap.iT D,?_⟩
  ·have:=m.tmp.2 i
   rw[ht]at this
   exact VR.gR _ _ this
  ·have:=m.df
   rw[j.2]at this
   rw[j.1]
   exact this
 have F:(aD II f key).wpIn (WF ro) n PP (e.post (c.iT ρ s.H SB.H σ w) (ρ.fC σ)) a w:=E ro n (c.iT ρ s.H SB.H σ w) (ρ.fC σ) a w (λ_=>q) hG u
 refine wpIn_mono F λx a1 B C=>?_
 cases e with
 |n d=>
  cases x with
  |normal=>
   obtain⟨k,_,I⟩:=C
   obtain⟨k1,k2⟩:=mF.ok (K:=Q d) l
   grind
  |_=>exact C.elim
 |x b d=>exact(l:False).elim
 |g b d=>exact(l:False).elim
 |r d=>exact(l:False).elim
 |p v d=>exact(l:False).elim
def pJ{c ρ SB a w}{s:St}{σ}(m:cA c ρ SB a w)(o:Sub c.G σ s.H SB.H){d b a1 k}(g:cA (c.iT ρ s.H SB.H σ w) b d a1 k){SB'}(t:Eb σ s.H d.H SB.H SB'.H)(ht:∀i,cR SB'.t i=(cR d.t i).bD σ)(h:SB'.nt=d.nt)(f:d.df=[]/\SB'.df=[]):
  ∃ρ',Ext ρ ρ'/\(∀l,ρ' (σ l)=b l)/\cA c ρ' SB' a1 k:=by
 obtain⟨hx,p,j⟩:=m.heap.KY o g.heap t
 refine⟨_,hx,p,⟨g.tmp.1.trans h.symm,λi=>?_⟩,j,?_⟩
 ·rw[ht]
  exact VR.bD (show uy σ b (ρ.back b s.H.n SB.H.n)from⟨ZD,λ_ _ e=>e⟩) _ _ (g.tmp.2 i)
 ·have:=g.df
  rw[f.1]at this
  rw[f.2]
  exact this
def oe(i:Nat):List AV:=[.ptr (17+3*i) 0 0 0]
def oO{ρ l v}:VR ρ (.ptr l 0 0 0) v↔ ∃b N,ρ l=m_ (b,N)/\v= .pointer (m_ ⟨b,0,t_⟩):=by
 rfl
def C6{c:fw}{ρ:Env}{w:World}{H:AH}{n:Nat}{K:Nat->List Int}(t:Rel c ρ H w)(d:H.get 15= .cT n K (λj=> .ptr (17+3*j) 0 0 0) t_)(p:H.get 16= .rows n 1 oe (.ty 89)):
  ∃b:Nat->Nat,(∀j,j<n->∃N,ρ (17+3*j)=m_ (b j,N))/\∀foc:Option (Nat×AV),(∀j a,foc=m_ (j,a)->j<n/\a= .ptr (17+3*j) 0 0 0)->
   Rel c ρ ((H.set 15 (.cT n K (λj=> .addr (b j) 0) foc)).set 16 (.rows n 1 (eW b) (.ty 89))) w:=by
 have q:=t.dF 15
 rw[d]at q
 obtain⟨L,O,u,e1,P,y,_⟩:=q
 have ex:∀j,∃b,j<n->∃N,ρ (17+3*j)=m_ (b,N):=λj=>by
  by_cases s:j<n
  ·obtain⟨b,N,k,_⟩:=oO.1 (y j s)
   simp_all
  ·exact⟨0,λh=>absurd h s⟩
 obtain⟨b,x⟩:=E_ ex
 have conv:∀j,j<n->∀v,VR ρ (.ptr (17+3*j) 0 0 0) v->VR ρ (.addr (b j) 0) v:=λj s v B=>by
  obtain⟨Q,R,k,rfl⟩:=oO.1 B
  obtain⟨N,m⟩:=x j s
  rw[k]at m
  cases m
  simp only[VR]
 refine⟨b,x,λfoc S=>?_⟩
 have g:∀l,((H.set 15 (.cT n K (λj=> .addr (b j) 0) foc)).set 16 (.rows n 1 (eW b) (.ty 89))).get l=if l=16 then .rows n 1 (eW b) (.ty 89)else if l=15 then .cT n K (λj=> .addr (b j) 0) foc else H.get l:=λl=>by
  rw[AH.bH,AH.bH]
 refine t.alike A (λl hl=>?_) (λl=>?_) λl=>?_
 ·rw[g]
  by_cases r:l=16
  ·subst r
   rw[if_pos A]
   rw[p]at hl
   refine⟨λ_ _=>rfl,?_⟩
   rcases hl.2 with⟨k,m⟩|⟨bb,N,vs,rest,el,fr,k,m,C,D,o⟩
   ·left
    refine⟨?_,m⟩
    cases n with
    |zero=>rfl
    |succ n=>
     have:=congrArg y_ k
     rw[nX (n:=n+1) (e:=1) (f:=oe) λ_ _=>rfl]at this
     simp at this
   ·right
    refine⟨bb,N,vs,rest,el,fr,k,m,C,?_,o⟩
    obtain⟨E,F⟩:=mT (f:=oe) (λ_=>rfl) D
    refine oI E λi hi=>?_
    obtain⟨v,G,I⟩:=F i hi
    exact⟨v,G,aU.aL.2 ⟨conv i hi v (aU.aL.1 I).1,zH⟩⟩
  ·rw[if_neg r]
   by_cases o:l=15
   ·subst o
    rw[if_pos A]
    rw[d]at hl
    obtain⟨bb,N,u,f1,J,T,_⟩:=hl
    refine⟨bb,N,u,f1,J,ZD,λj a e=>?_⟩
    grind
   grind
 ·rw[g]
  by_cases r:l=16
  ·subst r;rw[if_pos A,p];rfl
  ·rw[if_neg r]
   by_cases o:l=15
   ·subst o;rw[if_pos A,d];rfl
   ·rw[if_neg o]
 grind
def G8{c:fw}{ρ:Env}{w:World}{H:AH}{n L:Nat}{K:Nat->List Int}{P:Nat->AV}{foc:Option (Nat×AV)}{R:Nat->List AV}(o:Rel c ρ H w)(hL:L≠15)(b:H.get 15= .cT n K P foc)(d:H.get L= .rows n 1 R (.ty 89))(h:∀i,(R i).length=1)
  (C:∀j,j<n->foc=m_ (j,.ptr (17+3*j) 0 0 0)∨∀v,VR ρ (P j) v->VR ρ (.ptr (17+3*j) 0 0 0) v) (p:∀j,j<n->∀v,aU ρ (R j) [v]->VR ρ (.ptr (17+3*j) 0 0 0) v):
  Rel c ρ ((H.set 15 (.cT n K (λj=> .ptr (17+3*j) 0 0 0) t_)).set L (.rows n 1 oe (.ty 89))) w:=by
 have g:∀l,((H.set 15 (.cT n K (λj=> .ptr (17+3*j) 0 0 0) t_)).set L (.rows n 1 oe (.ty 89))).get l=if l=L then .rows n 1 oe (.ty 89)else if l=15 then .cT n K (λj=> .ptr (17+3*j) 0 0 0) t_ else H.get l:=λl=>by
  rw[AH.bH,AH.bH]
 refine o.alike A (λl hl=>?_) (λl=>?_) λl=>?_
 ·rw[g]
  by_cases k:l=L
  ·subst k
   rw[if_pos A]
   rw[d]at hl
   refine⟨λ_ _=>rfl,?_⟩
   rcases hl.2 with⟨h1,m⟩|⟨bb,N,vs,rest,el,fr,h1,m,q,r,a⟩
   ·left
    refine⟨?_,m⟩
    cases n with
    |zero=>rfl
    |succ n=>
     have:=congrArg y_ h1
     rw[nX (n:=n+1) (e:=1) (f:=R) λi _=>h i]at this
     simp at this
   ·right
    refine⟨bb,N,vs,rest,el,fr,h1,m,q,?_,a⟩
    obtain⟨s,t⟩:=mT h r
    refine oI s λi hi=>?_
    obtain⟨v,x,y⟩:=t i hi
    exact⟨v,x,aU.aL.2 ⟨p i hi v y,zH⟩⟩
  ·rw[if_neg k]
   by_cases a:l=15
   ·subst a
    rw[if_pos A]
    rw[b]at hl
    obtain⟨bb,N,u,f1,B,D,E⟩:=hl
    refine⟨bb,N,u,f1,B,λi hi=>?_,zA⟩
    grind
   grind
 ·rw[g]
  by_cases k:l=L
  ·subst k;rw[if_pos A,d];rfl
  ·rw[if_neg k]
   by_cases a:l=15
   ·subst a;rw[if_pos A,b];rfl
   ·rw[if_neg a]
 grind
def cD:List (Nat×eT)->Nat->eT
 |[],_=> .dead
 |(i,b)::l,x=>if x=i then b else cD l x
def oP(n):∀(a)(x),AH.get {n:=n,t:=j_ a} x=cD a x
 |[],x=>rfl
 |(i,b)::l,x=>by
  have c:=oP n l x
  unfold AH.get at c⊢
  simp only[j_,G_,cD]
  grind
def VW:List (Nat×AV)->Nat->AV
 |[],_=> .any
 |(i,b)::l,x=>if x=i then b else VW l x
def fV:∀(a)(x),cR (j_ a) x=VW a x
 |[],x=>rfl
 |(i,b)::l,x=>by
  have c:=fV l x
  unfold cR at c⊢
  simp only[j_,G_,VW]
  grind
def NO(l):HR.get l=cD [(0,.cells [.ab 5 2 aA] .ro),(1,.cells [.str [48],.str [49]] .ro),(3,.cells [.map (m_ 13)] .ro),(6,.cells dz (.ex 20)),(13,.map OZ)] l:=oP _ _ _
def wY(a):∀(c)(x),cD (c++a) x=if x∈c.map (·.1)then cD c x else cD a x
 |[],x=>by simp[cD]
 |(i,b)::l,x=>by
  simp only[List.cons_append,cD,v_,List.mem_cons]
  by_cases h:x=i
  ·simp[h]
  ·simp only[h,false_or,if_false]
   exact wY a l x
def eX{q n b}(c:∀x,x<15->cD b x= .dead)(l):(hG q n b).get l=if l<14 then HR.get l else if l=14 then .cells (aY q) (.ty 32)else cD b l:=by
 show AH.get {n:=n,t:=j_ _} l=_
 rw[oP,NO,wY]
 show(if l∈[0,1,3,6,13]then _ else _)=_
 by_cases hm:l∈[0,1,3,6,13]
 grind
 ·rw[if_neg hm]
  show(if l=14 then _ else cD b l)=_
  by_cases a:l<14
  ·rw[if_pos a,if_neg O,c l O]
   simp at hm
   simp[cD,hm]
  ·rw[if_neg a]
def Fy{σ}(h:∀j,j<14->σ j=j)(l):(HR.get l).bD σ=HR.get l:=by
 rw[wI]
 by_cases a:l=0
 ·rw[if_pos a];rfl
 ·rw[if_neg a]
  by_cases e1:l=1
  ·rw[if_pos e1];rfl
  ·rw[if_neg e1]
   by_cases b:l=3
   ·rw[if_pos b]
    show eT.cells [.map (m_ (σ 13))] .ro=_
    rw[h 13 zC]
   ·rw[if_neg b]
    by_cases c:l=6
    ·rw[if_pos c]
     rfl
    ·rw[if_neg c]
     by_cases Jh:l=13
     ·rw[if_pos Jh];rfl
     ·rw[if_neg Jh];rfl
def G9{σ}(h:∀j,j<14->σ j=j)(l):(HR.get l).le σ (HR.get l):=by
 rw[wI]
 by_cases a:l=0
 ·rw[if_pos a];exact⟨⟨⟨rfl,rfl,λi hi=>aZ i hi _⟩,trivial⟩,trivial⟩
 ·rw[if_neg a]
  by_cases e1:l=1
  ·rw[if_pos e1];exact⟨⟨rfl,rfl,trivial⟩,trivial⟩
  ·rw[if_neg e1]
   by_cases b:l=3
   ·rw[if_pos b];exact⟨⟨(h 13 zC).symm,trivial⟩,trivial⟩
   ·rw[if_neg b]
    by_cases c:l=6
    ·rw[if_pos c];exact⟨pz _,rfl⟩
    ·rw[if_neg c]
     by_cases Jh:l=13
     ·rw[if_pos Jh]
      refine⟨rfl,?_,?_⟩
      ·simp[gK,OZ,bt.le,w_]
      ·simp[gK,OZ,bt.le,w_]
     ·rw[if_neg Jh];exact trivial
def A4{q n0 a H σ}(hn:15<=n0)(b:∀x,x<15->cD a x= .dead)(c:∀x,n0<=x->cD a x= .dead)(s:∀l,l<14->H.get l=HR.get l)(f:H.get 14= .cells (aY q) (.ty 32))(hid:∀l,l<15->σ l=l)
  (i:∀l,l<n0->σ l<H.n) (k:∀l,n0<=l->σ l=H.n+(l-n0)) (m:∀l,15<=l->cD a l≠ .dead->H.get (σ l)=(cD a l).bD σ) (o:∀l d,l<n0->d<n0->σ l=σ d->l=d):Sub II.G σ (hG q n0 a) H where
 lt:=i
 ge:=k
 same l p:=by
  rw[eX b]at p⊢
  by_cases h:l<14
  ·rw[if_pos h,hid l O,s l h,Fy λj t=>hid j O]
  ·rw[if_neg h]at p⊢
   by_cases e:l=14
   ·subst e;rw[if_pos A,hid 14 O,f];rfl
   grind
 inj l d h1 u e:=by
  grind
 fp g r:=by
  have r:g<12:=r
  exact⟨Nat.lt_of_lt_of_le (O:g<15) hn,hid g O⟩
 low l hl:=by
  have hl:n0<=l:=hl
  rw[eX b,if_neg O,if_neg O]
  exact c l hl
structure bj where
 key:List Int
 W:Nat->Int
 m:Nat
 L:Nat->Int
 G:Nat->Int
 C:Nat->Bool
 T:Nat->Int
 deriving Inhabited
def aK(gs:List bj)(j:Nat):bj:=gs.getD j default
def lU(x:bj)(g l:Nat):Nat->eT
 |0=> .cells [.ab g 1 (ae x.W),.own (l+1) x.m 3,.own (l+2) x.m 1] (.ty 94)
 |1=> .rows x.m 3 (az x.L x.G x.C) (.ty 99)
 |_=> .rows x.m 1 (ae x.T) (.ty 3)
def A5(q:Query)(gs:List bj)(l:Nat):eT :=
 if l<14 then HR.get l else if l=14 then .cells (aY q) (.ty 32)else if l=15 then .cT gs.length (λj=>(aK gs j).key) (λj=> .ptr (17+3*j) 0 0 0) t_ else if l=16 then .rows gs.length 1 oe (.ty 89)else lU (aK gs ((l-17)/3)) q.ng l ((l-17)%3)
def fB(q:Query)(gs:List bj):AH:=AH.C5 (17+3*gs.length) (A5 q gs)
def Ha(q:Query)(k:Nat)(F:Nat->ay)(gs:List bj)(i:Nat):St:={t:=tG k F (.own 16 gs.length 1) (i:Int),nt:=86,H:=fB q gs,df:=[]}
def gu(q)(gs)(l):(fB q gs).get l=if l<17+3*gs.length then A5 q gs l else .dead:=AH.zr _ _ _
def tf{σ}(g:σ 14=14)(h:σ 15=15){k F out b a}(m:b=out.bD σ)(i):cR (tG k F b a) i=(cR (tG k F out a) i).bD σ:=by
 unfold tG
 rw[fV,fV]
 simp only[VW]
 by_cases c:i=2
 ·simp only[c,if_true];show _=s_ (σ 14) 0 0 0;rw[g]
 ·by_cases d:i=5
  ·simp only[d,c,if_true,if_false];show _=AV.map (m_ (σ 15));rw[h];rfl
  ·by_cases e:i=6
   grind
   ·by_cases f:i=15
    ·simp only[f,c,d,e,if_true,if_false];rfl
    ·by_cases j:i=16
     ·simp only[j,c,d,e,f,if_true,if_false];rfl
     ·by_cases l:i=17
      ·simp only[l,c,d,e,f,j,if_true,if_false];rfl
      ·simp only[c,d,e,f,j,l,if_false];rfl
def gU(k)(F:Nat->ay):an k (λi=>eD (F i)) (λi=>eD (F i)):=λi _ σ=>⟨⟨rfl,rfl⟩,⟨rfl,rfl⟩,⟨rfl,rfl⟩,⟨rfl,rfl⟩,⟨rfl,rfl⟩,⟨rfl,rfl⟩,⟨rfl,rfl⟩,⟨rfl,rfl⟩,⟨rfl,rfl⟩,⟨rfl,rfl⟩,trivial⟩
def wZ(q:Query)(k:Nat)(F:Nat->ay)(gs b:List bj)(i:Nat):Prop :=
 ∀(ro:Option Nat)(n:Nat)(c:fw)(ρ:Env)(a:Act)(w:World),ro=t_->c.G=II.G->(∀l,c.E l->l<16)->cA c ρ (Ha q k F gs i) a w->
  (aD II 40 4001).wpIn (WF ro) n PP (λx a1 d=>x= .normal/\∃ρ',OK 16 ρ ρ'/\cA c ρ' (Ha q k F b (i+1)) a1 d) a w
def Fz(q)(k)(F)(n i)(hi:i<k)(c:k<=1000000)(hq:ct q=true)(a:bB (F i)=true)(b:gk q (F i)=false):
  kg [jW q,qj q 0] 40 4001 17 (ui q k F 0 0 0 (.own 16 n 1) (i:Int) false) (ui q k F 0 0 0 (.own 16 n 1) (i:Int) true) (λ_=>True):=by
 rw[NL (l:=0) _ _ _ _ _ _ _ _ _ A]
 have e1:i_ (i:Int)=i:=O
 have d:b_ k=(k:Int):=rfl
 have fl:=gU k F
 have hQ:=trivial
 rw[e1,jv,hq,a,b]
 refine Zg (λ_=>?_) O
 refine cC _ _ Y (cC _ _ A ?_)
 show ah true _ _
 refine cC _ _ (aq O O) ?_
 repeat' (first|with_reducible refine Zf A ?_|with_reducible refine YG A ?_|with_reducible refine Zi A ?_|with_reducible refine h_ ?_ ?_|with_reducible exact bC _ _|with_reducible exact bO _ _|with_reducible exact aZ|omega|omega)
def JC(q)(k)(F)(gs)(i)(hi:i<k)(r:k<=1000000)(hq:ct q=true)(s:bB (F i)=true)(g:gk q (F i)=false):wZ q k F gs gs i:=by
 intro ro n c ρ a w m e C p
 let σ:Nat->Nat:=λl=>if l<17 then l else 17+3*gs.length+(l-17)
 have b:∀l,l<17->σ l=l:=λl h=>Y
 have d:∀l,17<=l->σ l=17+3*gs.length+(l-17):=λl h=>Y
 have nil:∀x,cD [] x= .dead:=λ_=>rfl
 have f:Sub c.G σ (hG q 17 []) (fB q gs):=by
  rw[e]
  refine A4 (H:=fB q gs) zC (λ_ _=>rfl) (λ_ _=>rfl) (λl h=>?_) ?_ (λl h=>b l O) (λl h=>?_) (λl h=>d l h) Y Y
  ·rw[gu,if_pos O];unfold A5;rw[if_pos h]
  ·rw[gu,if_pos O];rfl
  ·rw[b l h];show l<17+3*gs.length;omega
 have o:Eb σ (hG q 17 []) (hG q 17 []) (fB q gs) (fB q gs):=
  {n:=by rfl
   old:=λl t=>f.same l t
   new:=λl hl=>by
    have hl:17<=l:=hl
    rw[d l hl,gu,if_neg O,f.low l hl];rfl
   rest:=λ_ _ _=>rfl}
 refine wpIn_mono (td (SB:=Ha q k F gs i) (Fz q k F gs.length i hi r hq s g) (λj=>tf (b 14 zC) (b 15 zC) (by rfl) j) A ⟨rfl,rfl⟩ ro n c ρ a w m e f p) λx a1 D g=>?_
 obtain⟨rfl,E,u,l1,_,r1⟩:=g
 obtain⟨v,_,y⟩:=r1.view l1 (by show c.G<=17;rw[e];decide) (λl hl=>hl)
 obtain⟨ρ',hx,_,B⟩:=pJ (SB':=Ha q k F gs (i+1)) p f y o (λj=>tf (b 14 zC) (b 15 zC) (by rfl) j) rfl ⟨rfl,rfl⟩
 exact⟨rfl,ρ',OK.of hx,B⟩
def FA(q:Query)(x:ay):List Int:=[bif M 0 q.ng then aj q x 0 else 0,bif M 1 q.ng then aj q x 1 else 0,bif M 2 q.ng then aj q x 2 else 0]
def NP(q:Query)(W:Nat->Int)(h:q.ng<=3):(r_ q.ng 3&&k_ (d_ q.ng) λ_=>z (a_=a_))=true:=by
 simp_all
def gV(W:Nat->Int)(m:Nat)(v:Int)(j:Nat):Int:=if j=m then v else W j
def uj(W:Nat->Bool)(m:Nat)(v:Bool)(j:Nat):Bool:=if j=m then v else W j
def NQ(T)(m)(v):an (m+1) (λi=>bif M i m then ae T i else f_ 1 (e_ (0+(i-m)*1) [.int a_ v])) (ae (gV T m v)):=λk a σ=>by
 show bt.le σ (bif M k m then ae T k else f_ 1 (e_ (0+(k-m)*1) [.int a_ v])) [.int a_ (gV T m v k)]
 unfold gV
 by_cases h:k<m
 ·rw[eV h,if_neg O];exact⟨⟨rfl,rfl⟩,trivial⟩
 ·have:k=m:=by omega
  subst this
  rw[js h,if_pos A,show 0+(k-k)*1=0 by omega]
  exact⟨⟨rfl,rfl⟩,trivial⟩
def QT(L G)(C)(m)(a b)(c):an (m+1) (λi=>bif M i m then az L G C i else f_ 3 (e_ (0+(i-m)*3) [.int a_ a,.int a_ b,.bool c])) (az (gV L m a) (gV G m b) (uj C m c)):=λk d σ=>by
 show bt.le σ (bif M k m then az L G C k else f_ 3 (e_ (0+(k-m)*3) [.int a_ a,.int a_ b,.bool c])) [.int a_ (gV L m a k),.int a_ (gV G m b k),.bool (uj C m c k)]
 unfold gV uj
 by_cases h:k<m
 ·rw[eV h,if_neg O,if_neg O,if_neg O];exact⟨⟨rfl,rfl⟩,⟨rfl,rfl⟩,rfl,trivial⟩
 ·have:k=m:=by omega
  subst this
  rw[js h,if_pos A,if_pos A,if_pos A,show 0+(k-k)*3=0 by omega]
  exact⟨⟨rfl,rfl⟩,⟨rfl,rfl⟩,rfl,trivial⟩
def QU(v):an 1 (fW [.int a_ v] 1) λ_=>[.int a_ v]:=λk a σ=>by
 have:k=0:=O
 subst this
 exact⟨⟨rfl,rfl⟩,trivial⟩
def Uw(a b)(c):an 1 (fW [.int a_ a,.int a_ b,.bool c] 3) λ_=>[.int a_ a,.int a_ b,.bool c]:=λk d σ=>by
 have:k=0:=O
 subst this
 exact⟨⟨rfl,rfl⟩,⟨rfl,rfl⟩,rfl,trivial⟩
def FB(n)(b):an n (eW b) (eW b):=λ_ _ _=>⟨⟨rfl,rfl⟩,trivial⟩
def JD(n)(b)(l):an (n+1) (λi=>bif M i n then eW b i else f_ 1 (e_ (0+(i-n)*1) [.ptr l 0 0 0])) (λj=>bif c_ j n then [.any]else eW b j):=λk a σ=>by
 show bt.le σ (bif M k n then eW b k else f_ 1 (e_ (0+(k-n)*1) [.ptr l 0 0 0])) (bif c_ k n then [.any]else eW b k)
 by_cases h:k<n
 ·have e:c_ k n=false:=by
   cases c:c_ k n with
   |false=>rfl
   |true=>simp_all
  rw[eV h,e];exact⟨⟨rfl,rfl⟩,trivial⟩
 ·have:k=n:=by omega
  subst this
  rw[js h,ni,show 0+(k-k)*1=0 by omega]
  exact⟨trivial,trivial⟩
def NR(n)(K)(ks)(b:Nat->Nat)(l):∀i,i<n+1->cZ n K ks i=cZ n K ks i/\∀σ,w_ σ (nz n (λj=> .addr (b j) 0) (.ptr l 0 0 0) i) (bif c_ i n then .any else .addr (b i) 0):=λi hi=>⟨rfl,λσ=>by
 unfold nz
 cases c_ i n with
 |true=>exact trivial
 |false=>exact⟨rfl,rfl⟩⟩
def QV(n)(b)(l):(bif M n n then eW b n else f_ 1 (e_ (0+(n-n)*1) [.ptr l 0 0 0]))=[.ptr l 0 0 0]:=by
 rw[js (HD n),show 0+(n-n)*1=0 by omega];rfl
def JE(q)(k n)(F)(K)(b)(j m)(W L G T)(C)(i)(hi:i<k)(r:k<=1000000)(s:m<=1000000)(hq:ct q=true)(c:q.ng<=3)(d:bB (F i)=true)(e:gk q (F i)=true)(a1:(ln n K 3&&uI n K [bif M 0 q.ng then aj q (F i) 0 else 0,bif M 1 q.ng then aj q (F i) 1 else 0,bif M 2 q.ng then aj q (F i) 2 else 0] j)=true):
  kg [jW q,qj q q.ng] 40 4001 20 (Fx q k n F K b j q.ng W m (az L G C) (ae T) (az (gV L m (kR q (F i))) (gV G m (lJ q (F i))) (uj C m (Br q (F i)))) (ae (gV T m (i:Int))) (i:Int) false) (Fx q k n F K b j q.ng W m (az L G C) (ae T) (az (gV L m (kR q (F i))) (gV G m (lJ q (F i))) (uj C m (Br q (F i)))) (ae (gV T m (i:Int))) (i:Int) true) (λ_=>True):=by
 rw[QS _ _ _ _ _ _ _ _ _ _ _ _ _ _ _ A A]
 have e1:i_ (i:Int)=i:=O
 have t:b_ k=(k:Int):=rfl
 have fl:=gU k F
 have hQ:=trivial
 have f:=NQ T m (i:Int)
 have g:=QT L G C m (kR q (F i)) (lJ q (F i)) (Br q (F i))
 have h:=FB n b
 have l:c_ q.ng q.ng=true:=ni _
 have o:=NP q (aj q (F i)) c
 have a2:(z (m<=m)&&true&&true&&z ((m+1)*24<=140737488355328)&&true)=true:=by rw[bW (dw m),bW O];rfl
 have a:(z (m<=m)&&true&&true&&z ((m+1)*8<=140737488355328)&&true)=true:=by rw[bW (dw m),bW O];rfl
 have p:aN a_ ((i:Int)+1)=true:=aq O O
 rw[e1,jv,hq,d,e,l]
 refine Zg (λ_=>?_) O
 refine cC _ _ Y (cC _ _ A ?_)
 show ah false _ _
 try refine cC _ _ A ?_
 repeat' (first|with_reducible refine Zf A ?_|with_reducible refine YG A ?_|with_reducible refine Zi A ?_|with_reducible refine h_ ?_ ?_|with_reducible exact bL _ _|with_reducible exact bC _ _|with_reducible exact bO _ _|with_reducible exact aZ|with_reducible exact fl|with_reducible exact f|with_reducible exact g|with_reducible exact h|with_reducible exact hQ|with_reducible refine cC _ _ a1 ?_|with_reducible refine cC _ _ a2 ?_|with_reducible refine cC _ _ a ?_|with_reducible refine cC _ _ p ?_|refine cC _ _ o ?_|exactλ_ _=>⟨rfl,λ_=>⟨rfl,rfl⟩⟩|refine cC _ _ a1 ?_|refine cC _ _ a2 ?_|refine cC _ _ a ?_|refine cC _ _ (by simp;done) ?_)
def JF(q)(k n)(F)(K)(b)(i)(hi:i<k)(s:k<=1000000)(hn:n<=1000000)(hq:ct q=true)(d:q.ng<=3)(e:bB (F i)=true)(f:gk q (F i)=true)(a1:(ln n K 3&&Kv n K [bif M 0 q.ng then aj q (F i) 0 else 0,bif M 1 q.ng then aj q (F i) 1 else 0,bif M 2 q.ng then aj q (F i) 2 else 0])=true)(a2:(ln (n+1) (cZ n K [bif M 0 q.ng then aj q (F i) 0 else 0,bif M 1 q.ng then aj q (F i) 1 else 0,bif M 2 q.ng then aj q (F i) 2 else 0]) 3&&uI (n+1) (cZ n K [bif M 0 q.ng then aj q (F i) 0 else 0,bif M 1 q.ng then aj q (F i) 1 else 0,bif M 2 q.ng then aj q (F i) 2 else 0]) [bif M 0 q.ng then aj q (F i) 0 else 0,bif M 1 q.ng then aj q (F i) 1 else 0,bif M 2 q.ng then aj q (F i) 2 else 0] n)=true):
  kg [jW q,qj q q.ng] 40 4001 17 (QQ q k n F K b [bif M 0 q.ng then aj q (F i) 0 else 0,bif M 1 q.ng then aj q (F i) 1 else 0,bif M 2 q.ng then aj q (F i) 2 else 0] q.ng (aj q (F i)) (kR q (F i)) (lJ q (F i)) (Br q (F i)) (i:Int) false) (QQ q k n F K b [bif M 0 q.ng then aj q (F i) 0 else 0,bif M 1 q.ng then aj q (F i) 1 else 0,bif M 2 q.ng then aj q (F i) 2 else 0] q.ng (aj q (F i)) (kR q (F i)) (lJ q (F i)) (Br q (F i)) (i:Int) true) (C4 n):=by
 have h:=QR q k n F K b (i:Int) A
 have e1:i_ (i:Int)=i:=O
 rw[e1]at h
 rw[h]
 have t:b_ k=(k:Int):=rfl
 have fl:=gU k F
 have g:=QU (i:Int)
 have j:=Uw (kR q (F i)) (lJ q (F i)) (Br q (F i))
 have l:=JD n b 20
 have m:=NR n K [bif M 0 q.ng then aj q (F i) 0 else 0,bif M 1 q.ng then aj q (F i) 1 else 0,bif M 2 q.ng then aj q (F i) 2 else 0] b 20
 have a:=QV n b 20
 have o:c_ q.ng q.ng=true:=ni _
 have p:=NP q (aj q (F i)) d
 have c:(z (n<=n)&&true&&true&&z ((n+1)*8<=140737488355328)&&true)=true:=by rw[bW (dw n),bW O];rfl
 have r:aN a_ ((i:Int)+1)=true:=aq O O
 rw[jv,hq,e,f,o]
 refine Zg (λ_=>?_) O
 refine cC _ _ Y (cC _ _ A ?_)
 show ah false _ _
 try refine cC _ _ A ?_
 repeat' (first|with_reducible refine Zf A ?_|with_reducible refine YG A ?_|with_reducible refine Zi A ?_|with_reducible refine h_ ?_ ?_|with_reducible exact bL _ _|with_reducible exact bC _ _|with_reducible exact bO _ _|with_reducible exact aZ|with_reducible exact fl|with_reducible exact g|with_reducible exact j|with_reducible exact l|with_reducible exact m|with_reducible exact a|with_reducible refine cC _ _ a1 ?_|with_reducible refine cC _ _ a2 ?_|with_reducible refine cC _ _ c ?_|with_reducible refine cC _ _ r ?_|refine cC _ _ p ?_|refine cC _ _ a1 ?_|refine cC _ _ a2 ?_|refine cC _ _ c ?_|refine cC _ _ (by simp;done) ?_|exact a|(rw[js (HD n),show 0+(n-n)*1=0 by omega];rfl))
end
end Go.Sx
