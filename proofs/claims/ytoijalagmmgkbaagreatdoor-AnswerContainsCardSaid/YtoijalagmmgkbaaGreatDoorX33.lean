/- The proof of a statement of the seat, part 33. -/
import Derived.Test.YtoijalagmmgkbaaGreatDoorX29
import Derived.Test.YtoijalagmmgkbaaGreatDoorX32
import Derived.Test.YtoijalagmmgkbaaGreatDoorX24
import Derived.Test.YtoijalagmmgkbaaGreatDoorX20
import Derived.Test.YtoijalagmmgkbaaGreatDoorX14
import Derived.Test.YtoijalagmmgkbaaGreatDoorX15
set_option linter.all false
set_option linter.defProp false
set_option maxRecDepth 1000000
namespace Go.Sx
open Go
open Nat renaming blt->B,beq->d_,zero_le->o_,zero_add->x_,ble->y_,below->E_
open Decidable renaming decide->z
open Go.IntKind renaming i64->a_
open List renaming range->b_,drop->f_,length_cons->g_,take->i_,all->j_,ne_nil_of_mem->q_,length_append->r_,filter_cons->s_,all_eq_true->t_,length->A_
open Int renaming ofNat->c_,toNat->u_
open AV renaming int->e_,str->n_,ab->v_,ptr->w_,bool->B_,any->D_,bD->G_,addr->H_
open Classical renaming byContradiction->h_,axiomOfChoice->F_
open Bool renaming and_self->k_,and_eq_false_iff->m_
open Option renaming some->p_,none->z_
noncomputable section
def wV(q:Query):Query:=⟨q.nw,bG (au q.C),q.ng,λj=>q.G j,q.a,q.fl,q.nu,q.de,q.top⟩
def wW(q:Query)(x:ay):∀j,mf (wV q) x j=mf q x j
 |0=>rfl
 |j+1=>by
  show j9 (wV q) x j (mf (wV q) x j)=j9 q x j (mf q x j)
  rw[wW q x j];rfl
def Jy(q:Query)(x:ay):gk (wV q) x=gk q x:=by
 unfold gk lT
 have:dC (wV q) x=dC q x:=wW q x q.nw
 rw[this]
def C2{n:Nat}{p:Nat->Bool}(h:∀i,p i=true):j_ (List.range.loop n []) p=true:=List.all_eq_true.2 λi _=>h i
def Jz(q:Query)(x:ay):jA (wV q) x=jA q x:=by
 unfold jA lT
 have:dC (wV q) x=dC q x:=wW q x q.nw
 rw[this]
structure G6 (e:Query) (x:ay) (b:Nat) (s:Ug):Prop where
 other:s.c=true->∀k,k<b->e.C k 0≠8->Nn (e.C k 1) (gJ x (e.C k 0) 0) (e.C k 2)=true
 own:∀a,s.lo<=a->a<=s.hi->(∀m,m<s.n->s.K m≠a)->x.l<=a/\a<=x.h/\∀k,k<b->e.C k 0=8->Nn (e.C k 1) a (e.C k 2)=true
 low:s.lo=x.l∨∃k,k<b/\s.lo=e.C k 2
 out:∀m,m<s.n->∃k,k<b/\s.K m=e.C k 2
def NE{v:Int}{K:Nat->Int}{n:Nat}:gv v K n=true↔ ∃m,m<n/\K m=v:=by
 unfold gv
 rw[List.any_eq_true]
 exact⟨λ⟨m,h1,a⟩=>⟨m,List.mem_range.1 h1,(by simpa using a:v=K m).symm⟩,λ⟨m,h1,a⟩=>⟨m,List.mem_range.2 h1,by simp[a]⟩⟩
def NF(q:Query)(x:ay)(D:∀j,j<q.nw->1<=q.C j 1/\q.C j 1<=4):∀j,j<=q.nw->G6 q x j (mf q x j)
 |0,_=>⟨λ_ k o=>absurd o (lZ _),λd f i _=>⟨f,i,λk o=>absurd o (lZ _)⟩,.inl A,λm c=>absurd c (lZ _)⟩
 |j+1,G=>by
  have p:=NF q x D j O
  have H:=D j O
  show G6 q x (j+1) (j9 q x j (mf q x j))
  generalize mf q x j=s at p
  have r:∀(b:Prop) [Decidable b],(b->gv (q.C j 2) s.K s.n=false)->∀m,m<(if b then s.n+1 else s.n)->(b/\m=s.n/\(if b then dY s.n s.K (q.C j 2)else s.K) m=q.C j 2)∨(m<s.n/\(if b then dY s.n s.K (q.C j 2)else s.K) m=s.K m):=by
   intro b _ _ m c
   by_cases a:b
   ·simp only[a,if_true]at c⊢
    by_cases e:m=s.n
    ·exact .inl ⟨trivial,e,by subst e;simp[dY]⟩
    ·refine .inr ⟨O,?_⟩
     have:d_ m s.n=false:=by
      cases h:d_ m s.n with
      |false=>rfl
      |true=>exact absurd (dE h) e
     simp[dY,this]
   ·simp only[a,if_false]at c⊢
    exact .inr ⟨c,trivial⟩
  refine⟨λh k o g=>?_,λd f i t=>?_,?_,λm c=>?_⟩
  ·simp only[j9,bf,Bool.or_eq_true,bn]at h
   by_cases e:k=j
   ·subst e
    exact h.2.resolve_left g
   ·exact p.other h.1 k O g
  ·simp only[j9]at f i t
   have u:s.lo<=d:=by
    revert f;split
    ·split<;>omega
    ·omega
   have v:d<=s.hi:=by
    revert i;split
    ·split<;>omega
    ·split
     ·split<;>omega
     ·omega
   have E:∀m,m<s.n->s.K m≠d:=λm c=>by
    by_cases a:q.C j 0=8/\q.C j 1=2/\gv (q.C j 2) s.K s.n=false
    ·have:=t m (by rw[if_pos a];omega)
     rw[if_pos a]at this
     have e:d_ m s.n=false:=by
      cases h:d_ m s.n with
      |false=>rfl
      |true=>have:=dE h;omega
     simpa [dY,e]using this
    ·have:=t m (by rw[if_neg a];exact c)
     rwa[if_neg a]at this
   obtain⟨a1,a2,F⟩:=p.own d u v E
   refine⟨a1,a2,λk o g=>?_⟩
   by_cases e:k=j
   ·subst e
    unfold Nn
    rw[bn]
    have w:q.C k 1=1∨q.C k 1=2∨q.C k 1=3∨q.C k 1=4:=O
    rcases w with h|h|h|h
    ·rw[if_pos ⟨g,.inl h⟩]at f
     rw[if_pos ⟨g,h⟩]at i
     left
     refine⟨h,?_⟩
     revert f i;split<;>split<;>omega
    ·right;left
     refine⟨h,λe=>?_⟩
     by_cases a:gv (q.C k 2) s.K s.n=true
     ·obtain⟨m,c,y⟩:=NE.1 a
      exact E m c (by rw[y,e])
     ·have a:q.C k 0=8/\q.C k 1=2/\gv (q.C k 2) s.K s.n=false:=⟨g,h,by simpa using a⟩
      have:=t s.n (by rw[if_pos a];omega)
      rw[if_pos a]at this
      exact this (by simp[dY,e])
    ·right;right;left
     refine⟨h,?_⟩
     rw[if_neg O,if_pos ⟨g,h⟩]at i
     revert i;split<;>omega
    ·right;right;right
     refine⟨h,?_⟩
     rw[if_pos ⟨g,.inr h⟩]at f
     revert f;split<;>omega
   ·exact F k O g
  ·simp only[j9]
   have old:s.lo=x.l∨∃k,k<j+1/\s.lo=q.C k 2:=p.low.imp id λ⟨k,o,e⟩=>⟨k,O,e⟩
   split
   ·split
    ·exact .inr ⟨j,O,rfl⟩
    ·exact old
   ·exact old
  ·simp only[j9]at c⊢
   rcases r (q.C j 0=8/\q.C j 1=2/\gv (q.C j 2) s.K s.n=false) (λh=>h.2.2) m c with⟨_,_,e⟩|⟨f,e⟩
   ·exact⟨j,O,e⟩
   ·obtain⟨k,o,y⟩:=p.out m f
    exact⟨k,O,e.trans y⟩
def G7(lo:Int)(K:Nat->Int)(S:List Nat):∀n:Nat,(∀d,lo<=d->d<lo+n->∃m,m∈S/\K m=d)->n<=(S.filter λm=>z (lo<=K m)&&z (K m<lo+n)).length
 |0,_=>o_ _
 |n+1,h=>by
  have c:=G7 lo K S n λd f b=>h d f O
  obtain⟨m,i,e⟩:=h (lo+n) O O
  have split:∀S:List Nat,(S.filter λm=>z (lo<=K m)&&z (K m<lo+(n+1:Nat))).length=(S.filter λm=>z (lo<=K m)&&z (K m<lo+n)).length+(S.filter λm=>z (K m=lo+n)).length:=by
   intro S
   induction S with
   |nil=>rfl
   |cons a S c=>
    simp only[s_]
    by_cases f:lo<=K a/\K a<lo+n
    ·have b :¬ K a=lo+n:=by omega
     have g:K a<lo+(n+1:Nat):=O
     simp only[f.1,f.2,b,g,decide_true,decide_false,k_,if_true,g_,kH,if_false,c]
     omega
    ·by_cases b:K a=lo+n
     ·have g :¬ K a<lo+n:=by omega
      have p:K a<lo+(n+1:Nat):=O
      have q:lo<=K a:=O
      simp only[b,decide_true,if_true,g_]at*
      have j:lo+(n:Int)<lo+((n+1:Nat):Int):=O
      have k:lo<=lo+(n:Int):=O
      simp only[j,k,Int.lt_irrefl,decide_true,decide_false,k_,Bool.and_false,if_true,kH,if_false,g_,c]
      omega
     ·have g :¬ (lo<=K a/\K a<lo+(n+1:Nat)):=by omega
      have l:(z (lo<=K a)&&z (K a<lo+(n+1:Nat)))=false:=by rw[m_,iK,iK];omega
      have o:(z (lo<=K a)&&z (K a<lo+(n:Int)))=false:=by rw[m_,iK,iK];omega
      simp only[l,o,b,decide_false,kH,if_false,c]
  rw[split S]
  have:0<(S.filter λm=>z (K m=lo+n)).length:=List.length_pos_iff.2 (q_ (List.mem_filter.2 ⟨i,by simp[e]⟩))
  omega
def QN{q:Query}{x:ay}(y:eU q=true)(p:gk q x=true):∃d,(xG x d&&dV q x d)=true/\(d=x.l∨∃k,k<q.nw/\(d=q.C k 2∨d=q.C k 2+1)):=by
 obtain⟨_,D⟩:=fQ y
 have g:=NF q x (λj E=>(D j E).2.1) q.nw (dw _)
 unfold gk lT fy rL at p
 simp only[bf,bn]at p
 obtain⟨u,F⟩:=p
 have g:G6 q x q.nw (dC q x):=g
 generalize dC q x=s at g u F
 apply h_
 intro r
 have key:∀n:Nat,∀d,s.lo<=d->d<s.lo+n->d<=s.hi->∃m,m<s.n/\s.K m=d:=by
  intro n
  induction n with
  |zero=>intro d c t;omega
  |succ n v=>
   intro d c t w
   by_cases e:d<s.lo+n
   ·exact v d c e w
   apply h_
   intro b
   have b:∀m,m<s.n->s.K m≠d:=λm f e=>b ⟨m,f,e⟩
   obtain⟨a1,a2,G⟩:=g.own d c w b
   refine r ⟨d,?_,?_⟩
   ·simp only[bf]
    refine⟨by unfold xG;simp only[bf,bn];omega,?_⟩
    unfold dV
    rw[t_]
    intro k a
    have a:=List.mem_range.1 a
    unfold gG
    by_cases o:q.C k 0=8
    ·have:gJ x (q.C k 0) d=d:=by rw[o];rfl
     rw[this];exact G k a o
    ·have:gJ x (q.C k 0) d=gJ x (q.C k 0) 0:=by
      unfold gJ
      simp only[o,if_false]
     rw[this];exact g.other u k a o
   ·by_cases H:n=0
    ·have:d=s.lo:=by omega
     rcases g.low with h|⟨k,a,h⟩
     ·exact .inl O
     ·exact .inr ⟨k,a,.inl O⟩
    ·obtain⟨m,f,I⟩:=v (d-1) O O O
     obtain⟨k,a,J⟩:=g.out m f
     exact .inr ⟨k,a,.inr O⟩
 have L:0<s.hi-s.lo+1:=by
  have:(0:Int)<=(((b_ s.n).filter λj=>z (s.lo<=s.K j)&&z (s.K j<=s.hi)).length:Int):=Int.natCast_nonneg _
  omega
 have i:=G7 s.lo s.K (b_ s.n) (s.hi-s.lo+1).toNat λd c t=>by
  obtain⟨m,f,e⟩:=key (s.hi-s.lo+1).toNat d c t O
  exact⟨m,List.mem_range.2 f,e⟩
 have e:((b_ s.n).filter λj=>z (s.lo<=s.K j)&&z (s.K j<s.lo+(s.hi-s.lo+1).toNat))=(b_ s.n).filter λj=>z (s.lo<=s.K j)&&z (s.K j<=s.hi):=by
  refine List.filter_congr λm _=>?_
  congr 1
  refine decide_eq_decide.2 ?_
  omega
 rw[e]at i
 omega
def qS(q:Query)(x:ay)(d:Int):Bool:=xG x d&&dV q x d
def Fu(q:Query)(x:ay)(c:Bool)(D:Nat->Nat->Int)(N:Int->Nat)(V:Nat->Int)(n:Nat)(i b j:Int)(m:Nat)(E:j=(m:Int))(F:m<3)(t:aI 3 q.nw (au q.C)=true)(u:aI 1 q.ng (aR q.G)=true)(v:eU q=true)(hx:bB x=true)
  (H:N j<=1000) (f:qS q x (b-1+m)=true->N (j+1)=N j+1/\V (N j)=b-1+m) (d:qS q x (b-1+m)=false->N (j+1)=N j) (Q:Prop) (hQ:Q):
  kr [mg] [] 92 11001 39 (oN q x c D N V i b) (λ_=>mV q x c D n V i) (λj=>j+1) Q j:=by
 rw[y1 _ _ _ _ _ _ _ _ _ _ _ A]
 have s:u_ j=m:=O
 have w:c_ (0+u_ j)=(m:Int):=by rw[s,x_];rfl
 have o:eU ⟨q.nw,λj k=>bV (au q.C j) k,q.ng,λj=>q.G j,q.a,q.fl,q.nu,q.de,q.top⟩=true:=v
 have y:dV ⟨q.nw,λj k=>bV (au q.C j) k,q.ng,λj=>q.G j,q.a,q.fl,q.nu,q.de,q.top⟩ x (b-1+m)=dV q x (b-1+m):=rfl
 rw[w,s,o,y,hx]
 have hi:aN a_ (j+1)=true:=aq O O
 have tail:∀(k:Nat),k=N (j+1)->(an k (ae V) (ae V))->ax k (N (j+1)) (an k (ae V) (ae V)/\True):=λk e r=>YG e ⟨r,trivial⟩
 refine Zg (λ_=>?_) λh=>absurd h O
 refine cC _ _ zF (cC _ _ (by rw[bn];omega) (cC _ _ (by show(aI 3 q.nw (au q.C)&&aI 1 q.ng (aR q.G)&&true&&true)=true;rw[t,u];rfl) ?_))
 cases g:xG x (b-1+m)with
 |true=>
  refine Zg (λ_=>?_) λh=>absurd A h
  have p:qS q x (b-1+m)=dV q x (b-1+m):=by unfold qS;rw[g];rfl
  rw[p]at f d
  cases l:dV q x (b-1+m)with
  |true=>
   obtain⟨k1,k2⟩:=f l
   have rows:=ey V (N j) (b-1+m) k2.symm
   refine cC _ _ (by rw[bW (dw (N j)),bW (O:(N j+1)*8<=140737488355328)];rfl) (cC _ _ hi ?_)
   have k1:=k1.symm
   repeat' (first|exact hQ|exact rows|exact bL _ _|exact bC _ _|exact bO _ _|exact aZ|with_reducible rfl|refine Zf A ?_|refine YG k1 ?_|refine YG A ?_|refine Zi A ?_|refine And.intro ?_ ?_)
  |false=>
   have k1:=(d l).symm
   refine cC _ _ hi ?_
   exact ZA
 |false=>
  refine Zg (λh=>absurd h zA) λ_=>?_
  have k1:=(d (by unfold qS;rw[g];rfl)).symm
  refine cC _ _ hi ?_
  exact ZA
def NG(q:Query)(x:ay)(c:Bool)(D:Nat->Nat->Int)(N:Int->Nat)(V:Nat->Int)(n:Nat)(i a j:Int)(d:j=3)(b:N j=n)(Q:Prop):
  kr [mg] [] 92 11001 39 (oN q x c D N V i a) (λ_=>mV q x c D n V i) (λj=>j+1) Q j:=by
 rw[y1 _ _ _ _ _ _ _ _ _ _ _ A]
 refine Zg (λh=>absurd h O) λ_=>?_
 repeat' (first|exact trivial|exact bL _ _|exact bC _ _|exact bO _ _|exact aZ|with_reducible rfl|refine Zf A ?_|refine YG b ?_|refine YG A ?_|refine Zi A ?_|refine And.intro ?_ ?_)
def XY(a:Int):an 3 (fW [.int a_ (a-1),.int a_ a,.int a_ (a+1)] 1) (ae λk=>a-1+c_ k):=λk b σ=>by
 match k,b with
 |0,_=>exact⟨⟨rfl,by show a-1=a-1+(0:Int);omega⟩,trivial⟩
 |1,_=>exact⟨⟨rfl,by show a=a-1+(1:Int);omega⟩,trivial⟩
 |2,_=>exact⟨⟨rfl,by show a+1=a-1+(2:Int);omega⟩,trivial⟩
 |k+3,h=>exact absurd h O
def C3(q:Query)(x:ay)(c:Bool)(D:Nat->Nat->Int)(N a:Int->Nat)(V:Nat->Int)(n b:Nat)(i:Int)(m:Nat)(hi:i=(m:Int))(f:m<q.nw+2)(g:q.nw<=6)(k : -1<=D m 2/\D m 2<=4398046511104)
  (hl:aE PP II false (aD II 92 11001) 39 (oN q x c D a V i (D i.toNat 2) 0) (mV q x c D b V i)) (k1:N i=a 0) (k2:b=N (i+1)) (Q:Prop) (hQ:Q):
  kr [mg] [(11001,39,oN q x c D a V i (D i.toNat 2) 0,mV q x c D b V i)] 92 8001 36 (C1 q x c D N V) (λ_=>xZ q x c n V) (λj=>j+1) Q i:=by
 rw[wU]
 have e:u_ i=m:=O
 have l:c_ (q.nw+2)=(q.nw:Int)+2:=rfl
 rw[e]at hl⊢
 have c3:=XY (D m 2)
 refine Zg (λ_=>?_) λh=>absurd h O
 refine cC _ _ zF (cC _ _ (by rw[bn];omega) (cC _ _ (aq O O) (cC _ _ (aq O O) ⟨hl,?_⟩)))
 have d:aN a_ (i+1)=true:=aq O O
 repeat' (first|exact hQ|exact c3|exact bL _ _|exact bC _ _|exact bO _ _|exact aZ|with_reducible rfl|refine Zf A ?_|refine YG k1 ?_|refine YG k2 ?_|refine YG A ?_|refine Zi A ?_|refine And.intro ?_ ?_|refine cC _ _ d ?_)
def JA(q:Query)(x:ay)(c:Bool)(D:Nat->Nat->Int)(N a:Int->Nat)(V:Nat->Int)(n b:Nat)(i:Int)(hi:i=((q.nw+2:Nat):Int))(k1:N i=n)(Q:Prop):
  kr [mg] [(11001,39,oN q x c D a V i (D i.toNat 2) 0,mV q x c D b V i)] 92 8001 36 (C1 q x c D N V) (λ_=>xZ q x c n V) (λj=>j+1) Q i:=by
 rw[wU]
 have d:c_ (q.nw+2)=((q.nw+2:Nat):Int):=rfl
 refine Zg (λh=>absurd h O) λ_=>?_
 repeat' (first|exact trivial|exact bL _ _|exact bC _ _|exact bO _ _|exact aZ|with_reducible rfl|refine Zf A ?_|refine YG k1 ?_|refine YG A ?_|refine Zi A ?_|refine And.intro ?_ ?_)
def rT(q:Query)(x:ay)(k:Nat):Int:=cY q x (k/3) 2-1+((k%3:Nat):Int)
def NH(q:Query)(x:ay)(k:Nat):List Int:=((b_ k).map (rT q x)).filter (qS q x)
def ib(q:Query)(x:ay)(k:Nat):Nat:=(NH q x k).length
def jQ(q:Query)(x:ay):Nat:=ib q x (3*(q.nw+2))
def fT(q:Query)(x:ay)(m:Nat):Int:=(NH q x (3*(q.nw+2))).getD m 0
def A2(q:Query)(x:ay)(k n:Nat):NH q x (k+n)=NH q x k++((b_ n).map λj=>rT q x (k+j)).filter (qS q x):=by
 unfold NH
 rw[List.range_add,List.map_append,List.filter_append,List.map_map];rfl
def QO{q:Query}{x:ay}{k:Nat}(h:qS q x (rT q x k)=true):ib q x (k+1)=ib q x k+1:=by
 unfold ib;rw[A2,r_];simp[h]
def Uu{q:Query}{x:ay}{k:Nat}(h:qS q x (rT q x k)=false):ib q x (k+1)=ib q x k:=by
 unfold ib;rw[A2,r_];simp[h]
def NI(q:Query)(x:ay)(k:Nat):ib q x k<=k:=by
 unfold ib NH
 refine Nat.le_trans (List.length_filter_le _ _) ?_
 simp
def Uv{q:Query}{x:ay}{k:Nat}(b:k<3*(q.nw+2))(h:qS q x (rT q x k)=true):fT q x (ib q x k)=rT q x k:=by
 unfold fT ib
 obtain⟨r,a⟩:∃r,3*(q.nw+2)=k+(r+1):=⟨3*(q.nw+2)-k-1,O⟩
 rw[a,A2,List.range_succ_eq_map,List.map_cons,s_,Nat.add_zero,h]
 simp[List.getD_eq_getElem?_getD]
def rU(q:Query)(x:ay)(i j:Nat)(a:j<3):rT q x (3*i+j)=cY q x i 2-1+(j:Int):=by
 unfold rT
 rw[show(3*i+j)/3=i by omega,show(3*i+j)%3=j by omega]
def A3{q:Query}{x:ay}(a:eU q=true)(hx:bB x=true)(m:Nat)(c:m<q.nw+2): -1<=cY q x m 2/\cY q x m 2<=4398046511104:=by
 obtain⟨_,b⟩:=fQ a
 unfold bB at hx
 simp only[bf,bn]at hx
 unfold cY
 by_cases h:m<q.nw
 ·rw[if_pos h];exact(b m h).2.2
 ·rw[if_neg h,if_pos A]
  split<;>omega
def JB(q:Query)(x:ay)(c:Bool)(i:Nat)(hi:i<q.nw+2)(g:aI 3 q.nw (au q.C)=true)(k:aI 1 q.ng (aR q.G)=true)(e:eU q=true)(hx:bB x=true):
  aE PP II false (aD II 92 11001) 39 (oN q x c (cY q x) (λj=>ib q x (3*i+j.toNat)) (fT q x) (i:Int) (cY q x i 2) 0) (mV q x c (cY q x) (ib q x (3*(i+1))) (fT q x) (i:Int)):=by
 have l:=(fQ e).1
 have key:=aE.of (ι:=Nat) iw [mg] (bm PP II []) 1000 (c:=aD II 92 11001) (ir:=false) 39 (λj=>j<=3) (λj=>oN q x c (cY q x) (λj=>ib q x (3*i+j.toNat)) (fT q x) (i:Int) (cY q x i 2) (j:Int)) (λ_=>mV q x c (cY q x) (ib q x (3*(i+1))) (fT q x) (i:Int)) (λj=>3-j) (λj=>j+1) 0 A (o_ _) λj b=>?_
 ·exact key
 have b:j<=3:=b
 by_cases a:j<3
 ·have d:((j:Int)).toNat=j:=by omega
  have f:((j:Int)+1).toNat=j+1:=O
  have m:=NI q x (3*i+j)
  refine Fu q x c (cY q x) _ (fT q x) _ (i:Int) (cY q x i 2) (j:Int) j A a g k e hx ?_ (λh=>?_) (λh=>?_) ((j+1<=3)/\3-(j+1)<3-j/\(mV q x c (cY q x) (ib q x (3*(i+1))) (fT q x) (i:Int)).pick=(mV q x c (cY q x) (ib q x (3*(i+1))) (fT q x) (i:Int)).pick) ⟨a,O,rfl⟩
  ·show ib q x (3*i+((j:Int)).toNat)<=1000
   rw[d];omega
  ·rw[<-rU q x i j a]at h⊢
   show ib q x (3*i+((j:Int)+1).toNat)=ib q x (3*i+((j:Int)).toNat)+1/\fT q x (ib q x (3*i+((j:Int)).toNat))=_
   rw[d,f]
   exact⟨QO h,Uv O h⟩
  ·rw[<-rU q x i j a]at h
   show ib q x (3*i+((j:Int)+1).toNat)=ib q x (3*i+((j:Int)).toNat)
   rw[d,f]
   exact Uu h
 ·have b:j=3:=by omega
  subst b
  exact NG q x c (cY q x) _ (fT q x) _ (i:Int) (cY q x i 2) 3 A A _
def Fv(q:Query)(x:ay)(c:Bool)(e:aI 3 q.nw (au q.C)=true)(f:aI 1 q.ng (aR q.G)=true)(b:eU q=true)(hx:bB x=true):
  aE PP II false (aD II 92 8001) 36 (C1 q x c (cY q x) (λi=>ib q x (3*i.toNat)) (fT q x) 0) (xZ q x c (jQ q x) (fT q x)):=by
 have g:=(fQ b).1
 have key:=aE.Vk (ι:=Nat) iw [mg] 1000 (λi=>[(11001,39,oN q x c (cY q x) (λj=>ib q x (3*i+j.toNat)) (fT q x) (i:Int) (cY q x ((i:Int)).toNat 2) 0,mV q x c (cY q x) (ib q x (3*(i+1))) (fT q x) (i:Int))]) (c:=aD II 92 8001) (ir:=false) 36 (λi=>i<=q.nw+2) (λi=>C1 q x c (cY q x) (λi=>ib q x (3*i.toNat)) (fT q x) (i:Int)) (λ_=>xZ q x c (jQ q x) (fT q x)) (λi=>q.nw+2-i) (λi=>i+1) 0 A (o_ _) λi hi=>?_
 ·exact key
 have hi:i<=q.nw+2:=hi
 have d:((i:Int)).toNat=i:=O
 have h:((i:Int)+1).toNat=i+1:=O
 by_cases a:i<q.nw+2
 ·refine C3 q x c (cY q x) _ _ (fT q x) _ _ (i:Int) i A a g (A3 b hx i a) ?_ ?_ ?_ ((i+1<=q.nw+2)/\q.nw+2-(i+1)<q.nw+2-i/\(xZ q x c (jQ q x) (fT q x)).pick=(xZ q x c (jQ q x) (fT q x)).pick) ⟨a,O,rfl⟩
  ·rw[d];exact JB q x c i a e f b hx
  ·show ib q x (3*((i:Int)).toNat)=ib q x (3*i+0)
   rw[d];rfl
  ·show ib q x (3*(i+1))=ib q x (3*((i:Int)+1).toNat)
   rw[h]
 ·have hi:i=q.nw+2:=by omega
  subst hi
  refine JA q x c (cY q x) _ _ (fT q x) _ _ _ A ?_ _
  show ib q x (3*(((q.nw+2:Nat):Int)).toNat)=jQ q x
  rw[d];rfl
def kR(q:Query)(x:ay):Int:=match gk q x with
 |false=>0
 |true=>if q.a=1 then 1 else if q.fl=7 then x.b else match jA q x with|true=>x.l|false=>jc (fT q x) (jQ q x)
def lJ(q:Query)(x:ay):Int:=match gk q x with
 |false=>0
 |true=>if q.a=1 then 1 else if q.fl=7 then x.b else match jA q x with|true=>x.h|false=>cG (fT q x) (jQ q x)
def Br(q:Query)(x:ay):Bool:=gk q x&&jA q x
def QP{q:Query}{x:ay}{k:Nat}{d:Int}(h:d∈NH q x k):qS q x d=true:=(List.mem_filter.1 h).2
def wX{q:Query}{x:ay}(a:eU q=true)(b:gk q x=true):0<jQ q x:=by
 obtain⟨d,c,f⟩:=QN a b
 have:d∈NH q x (3*(q.nw+2)):=by
  refine List.mem_filter.2 ⟨?_,c⟩
  have mk:∀i j:Nat,i<q.nw+2->j<3->d=cY q x i 2-1+(j:Int)->d∈(b_ (3*(q.nw+2))).map (rT q x):=λi j hi g e=>
   List.mem_map.2 ⟨3*i+j,List.mem_range.2 O,(rU q x i j g).trans e.symm⟩
  rcases f with h|⟨k,hk,h|h⟩
  ·refine mk q.nw 1 O O ?_
   unfold cY
   rw[if_neg O,if_pos A,if_pos A,h];omega
  ·refine mk k 1 O O ?_
   unfold cY
   rw[if_pos hk,h];omega
  ·refine mk k 2 O O ?_
   unfold cY
   rw[if_pos hk,h];omega
 exact List.length_pos_iff.2 (q_ this)
def NJ(q:Query)(x:ay):an (q.nw+2) (λi=>bif B i q.nw then au (bG (au q.C)) i else i_ 3 (f_ (0+(i-q.nw)*3) [.int a_ 0,.int a_ 0,.int a_ x.l,.int a_ 0,.int a_ 0,.int a_ x.h])) (au (cY q x)):=λi hi σ=>by
 show bt.le σ (bif B i q.nw then au (bG (au q.C)) i else i_ 3 (f_ (0+(i-q.nw)*3) [.int a_ 0,.int a_ 0,.int a_ x.l,.int a_ 0,.int a_ 0,.int a_ x.h])) (au (cY q x) i)
 by_cases h:i<q.nw
 ·rw[eV h]
  refine⟨⟨rfl,?_⟩,⟨rfl,?_⟩,⟨rfl,?_⟩,trivial⟩<;>(unfold cY;rw[if_pos h];rfl)
 ·rw[js h]
  by_cases e:i=q.nw
  ·subst e
   rw[show 0+(q.nw-q.nw)*3=0 by omega]
   refine⟨⟨rfl,?_⟩,⟨rfl,?_⟩,⟨rfl,?_⟩,trivial⟩<;>(unfold cY;simp)
  ·have:i=q.nw+1:=by omega
   subst this
   rw[show 0+(q.nw+1-q.nw)*3=3 by omega]
   refine⟨⟨rfl,?_⟩,⟨rfl,?_⟩,⟨rfl,?_⟩,trivial⟩<;>(unfold cY;rw[if_neg h];simp)
def Fw{q:Query}{x:ay}(c:gk q x=true)(a:jA q x=false):0<q.nw:=by
 refine Nat.pos_of_ne_zero λe=>?_
 have b:dC q x=⟨true,x.l,x.h,0,λ_=>0⟩:=by unfold dC;rw[e];rfl
 unfold jA lT fy rL at a
 rw[b]at a
 simp at a
def NK{q:Query}{x:ay}(e:aI 3 q.nw (au q.C)=true)(f:aI 1 q.ng (aR q.G)=true)(d:eU q=true)(hx:bB x=true):
  af PP II 92 [.agg (aY q),.agg (aF x)] HO (.ret (.bK [.agg [.int a_ (kR q x),.int a_ (lJ q x),.bool (Br q x)],.bool (gk q x)]) HO):=by
 have m:=(fQ d).1
 refine CB (ks:=[WV,mg,G5,SJ,Mo]) (T:=[(8001,36,C1 q x (jA q x) (cY q x) (λi=>ib q x (3*i.toNat)) (fT q x) 0,xZ q x (jA q x) (jQ q x) (fT q x))]) (λσ=>⟨⟨⟨rfl,rfl⟩,⟨rfl,rfl⟩,rfl,trivial⟩,rfl,trivial⟩) ?_
 rw[ND _ _ _ _ _ _ _ _ A A A,e,f,show eU _=true from(oH q).trans d,hx,show gk ⟨q.nw,bG (au q.C),q.ng,λj=>q.G j,q.a,q.fl,q.nu,q.de,q.top⟩ x=gk q x from Jy q x,show jA ⟨q.nw,bG (au q.C),q.ng,λj=>q.G j,q.a,q.fl,q.nu,q.de,q.top⟩ x=jA q x from Jz q x]
 refine cC _ _ A (cC _ _ A (cC _ _ A ?_))
 have g:=NJ q x
 unfold kR lJ Br
 cases hp:gk q x with
 |false=>exact⟨rfl,rfl⟩
 |true=>
  have k:=wX d hp
  have o:jQ q x<=3*(q.nw+2):=NI q x _
  cases l:jA q x with
  |true=>
   show ah (z (q.a=1)) _ (ah (z (q.fl=7)) _ _)
   refine Zg (λh=>?_) λh=>Zg (λc=>?_) λc=>?_
   ·rw[if_pos h,if_pos h];exact⟨rfl,rfl⟩
   ·rw[if_neg h,if_pos c,if_neg h,if_pos c];exact⟨rfl,rfl⟩
   ·rw[if_neg h,if_neg c,if_neg h,if_neg c];exact⟨rfl,rfl⟩
  |false=>
   have lp:=Fv q x false e f d hx
   have nw:=Fw hp l
   have a1:((j_ (List.range.loop (jQ q x) []) λi=>true)&&z (jQ q x<=jQ q x))=true:=by rw[C2 λ_=>rfl,bW (dw _)];rfl
   have a2:((j_ (List.range.loop (jQ q x) []) λi=>true)&&y_ (jQ q x) 1000000000000&&B 0 (jQ q x))=true:=by rw[C2 λ_=>rfl,kV O,eV k];rfl
   refine cC _ _ (by rw[eV nw,kV (O:q.nw<=1000)];rfl) (cC _ _ (bW A) (cC _ _ (bW A) (cC _ _ (by rw[bW (dw _),bW (O:(q.nw+2)*24<=140737488355328)];rfl) ⟨lp,?_⟩)))
   have b:ib q x (3*(0:Int).toNat)=0:=rfl
   generalize jQ q x=n at*
   generalize fT q x=V at*
   refine YG b (YG A ⟨g,rfl,?_⟩)
   refine Zf A (Zf A (Zf A (Zf A (Zf A (Zf A (Zf A (Zf A (Zf A (Zf A (YG A ⟨bC _ _,YG A ⟨bO _ _,Zf A (Zf A (Zi A (Zi A (Zf A ⟨aZ,YG b (Zf A (YG A ⟨rfl,?_⟩))⟩))))⟩⟩))))))))))
   refine cC _ _ a1 (cC _ _ a2 (cC _ _ a1 (cC _ _ a2 ?_)))
   refine Zg (λh=>?_) λh=>Zg (λc=>?_) λc=>?_
   ·rw[if_pos h,if_pos h];exact⟨rfl,rfl⟩
   ·rw[if_neg h,if_pos c,if_neg h,if_pos c];exact⟨rfl,rfl⟩
   ·rw[if_neg h,if_neg c,if_neg h,if_neg c];exact⟨rfl,rfl⟩
def qT(q:Query)(cs:List AV):Bool:=match cs with
 |[.ab nw 3 f,.ab ng 1 g,.int a_ a,.int a_ fl,.str nu,.str de,.int a_ top]=>d_ nw q.nw&&d_ ng q.ng&&((b_ nw).all λj=>match f j with|[.int a_ x,.int a_ y,.int a_ b]=>z (x=q.C j 0)&&z (y=q.C j 1)&&z (b=q.C j 2)|_=>false)&&((b_ ng).all λj=>match g j with|[.int a_ x]=>z (x=q.G j)|_=>false)&&z (a=q.a)&&z (fl=q.fl)&&z (nu=q.nu)&&z (de=q.de)&&z (top=q.top)
 |_=>false
def mi{q:Query}{cs:List AV}(h:qT q cs=true):AV.le (λl=>l) (.agg cs) (.agg (aY q))/\∀σ,G_ σ (.agg cs)= .agg cs:=by
 unfold qT at h
 split at h
 ·simp only[bf,bn,t_,List.mem_range]at h
  obtain⟨⟨⟨⟨⟨⟨⟨⟨b,c⟩,d⟩,f⟩,g⟩,j⟩,k⟩,m⟩,n⟩:=h
  have b:=dE b
  have c:=dE c
  refine⟨⟨⟨b,rfl,λi hi=>?_⟩,⟨c,rfl,λi hi=>?_⟩,⟨rfl,g⟩,⟨rfl,j⟩,k,m,⟨rfl,n⟩,trivial⟩,λ_=>rfl⟩
  ·have:=d i hi
   split at this
   ·rename_i x y a e
    simp only[bf,bn]at this
    rw[e]
    exact⟨⟨rfl,this.1.1⟩,⟨rfl,this.1.2⟩,⟨rfl,this.2⟩,trivial⟩
   ·cases this
  ·have:=f i hi
   split at this
   ·rename_i x e
    rw[e]
    exact⟨⟨rfl,pT this⟩,trivial⟩
   ·cases this
 ·cases h
def jv(q:Query):qT q [.ab q.nw 3 (au q.C),.ab q.ng 1 (aR q.G),.int a_ q.a,.int a_ q.fl,.str q.nu,.str q.de,.int a_ q.top]=true:=by
 unfold qT
 have c:((b_ q.nw).all λj=>match au q.C j with|[.int a_ x,.int a_ y,.int a_ b]=>z (x=q.C j 0)&&z (y=q.C j 1)&&z (b=q.C j 2)|_=>false)=true:=List.all_eq_true.2 λj _=>by simp[au]
 have d:((b_ q.ng).all λj=>match aR q.G j with|[.int a_ x]=>z (x=q.G j)|_=>false)=true:=List.all_eq_true.2 λj _=>by simp[aR]
 simp only[c,d,ni,decide_true,k_]
def ct(q:Query):Bool:=aI 3 q.nw (au q.C)&&aI 1 q.ng (aR q.G)&&eU q
def eb{q:Query}(h:ct q=true):aI 3 q.nw (au q.C)=true/\aI 1 q.ng (aR q.G)=true/\eU q=true:=by
 unfold ct at h
 simp only[bf]at h
 exact⟨h.1.1,h.1.2,h.2⟩
def jW(q:Query):aC PP II:=aC.CC 92
 (λX args b=>match args with
  |[.agg cs,.agg ds]=>match iV ds with
   |some x=>X.ak (qT q cs&&ct q&&bB x) (b (.bK [.agg [.int a_ (kR q x),.int a_ (lJ q x),.bool (Br q x)],.bool (gk q x)]))
   |_=>X.fail
  |_=>X.fail)
 λX sem hX args b h=>by
  split at h
  ·split at h
   ·rename_i x hx
    obtain⟨a,c⟩:=hX.ak _ _ h
    simp only[bf]at a
    cases fK hx
    obtain⟨r1,d,e⟩:=eb a.1.2
    obtain⟨l1,l2⟩:=mi a.1.1
    refine⟨_,c,λ_=>rfl,λσ=>?_,af.dA (NK r1 d e a.2) l1 (uY x)⟩
    show [G_ σ (.agg _),_]=_
    rw[l2];rfl
   ·exact zS
  ·exact zS
def qj(q:Query)(g:Nat):aC PP II:=aC.CC 30
 (λX args b=>match args with
  |[.agg cs,.agg ds]=>match iV ds with
   |some x=>X.ak (qT q cs&&ct q&&bB x&&d_ q.ng g) (b (.bK [.ab g 1 (ae (bc q x)),.int a_ 0]))
   |_=>X.fail
  |_=>X.fail)
 λX sem hX args b h=>by
  split at h
  ·split at h
   ·rename_i x hx
    obtain⟨a,c⟩:=hX.ak _ _ h
    simp only[bf]at a
    cases fK hx
    obtain⟨r1,d,e⟩:=eb a.1.1.2
    obtain⟨l1,l2⟩:=mi a.1.1.1
    cases dE a.2
    refine⟨_,c,λ_=>rfl,λσ=>?_,af.dA (Uo r1 d e a.1.2) l1 (uY x)⟩
    show [G_ σ (.agg _),_]=_
    rw[l2];rfl
   ·exact zS
  ·exact zS
def tG(k:Nat)(F:Nat->ay)(out:AV)(i:Int):Tr AV:=Tr.ofList [(2,.ptr 14 0 0 0),(5,.map (p_ 15)),(6,out),(15,cm k F),(16,.int a_ (c_ k)),(17,.int a_ i)]
def hG(q:Query)(n:Nat)(a:List (Nat×ABlk)):AH:=hQ n ([(14,.cells (aY q) (.ty 32))]++a)
def eW(b:Nat->Nat)(i:Nat):List AV:=[.addr (b i) 0]
abbrev kg(ks:List (aC PP II))(f key n0:Nat)(s b:St)(P:St->Prop):Prop :=
 uA ks (mG PP II []) 1000 false (.code (aD II f key)) s {n:=λa=>mF n0 a b (P a),x:=λ_ _=>False,g:=λ_ _=>False,r:=λ_=>False,p:=λ_ _=>False}
def C4(n:Nat)(s:St):Prop:=match cR s.t 6 with
 | .own L _ _=>match s.H.get L with
  | .rows _ _ f _=>match s.H.get 15 with
   | .cT _ _ _ (p_ (_,.ptr g k e j))=>f n=[.ptr g k e j]
   |_=>False
  |_=>False
 |_=>False
def ui(q:Query)(k:Nat)(F:Nat->ay)(a b c:Nat)(out:AV)(i:Int):Bool->St
 |false=>{t:=tG k F out i,nt:=86,H:=hG q 17 [],df:=[]}
 |true=>{t:=tG k F out (i+1),nt:=86,H:=hG q 17 [],df:=[]}
def QQ(q:Query)(k n:Nat)(F:Nat->ay)(K:Nat->List Int)(b:Nat->Nat)(ks:List Int)(g:Nat)(W:Nat->Int)(lo hi:Int)(c:Bool)(i:Int):Bool->St
 |false=>{t:=tG k F (.own 16 n 1) i,nt:=86,H:=hG q 17 [(15,.cT n K (λj=> .addr (b j) 0) z_),(16,.rows n 1 (eW b) (.ty 89))],df:=[]}
 |true=>{t:=tG k F (.own 20 (n+1) 1) (i+1),nt:=86,H:=hG q 21 [(15,.cT (n+1) (cZ n K ks) (λj=>bif d_ j n then .any else .addr (b j) 0) (p_ (n,.ptr 17 0 0 0))),(17,.cells [.ab g 1 (ae W),.own 18 1 3,.own 19 1 1] (.ty 94)),(18,.rows 1 3 (λ_=>[.int a_ lo,.int a_ hi,.bool c]) (.ty 99)),(19,.rows 1 1 (λ_=>[.int a_ i]) (.ty 3)),(20,.rows (n+1) 1 (λj=>bif d_ j n then [.any]else eW b j) (.ty 89))],df:=[]}
def Fx(q:Query)(k n:Nat)(F:Nat->ay)(K:Nat->List Int)(b:Nat->Nat)(j g:Nat)(W:Nat->Int)(m:Nat)(S T:Nat->List AV)(a c:Nat->List AV)(i:Int):Bool->St
 |false=>{t:=tG k F (.own 16 n 1) i,nt:=86,H:=hG q 20 [(15,.cT n K (λj=> .addr (b j) 0) (p_ (j,.ptr 17 0 0 0))),(16,.rows n 1 (eW b) (.ty 89)),(17,.cells [.ab g 1 (ae W),.own 18 m 3,.own 19 m 1] (.ty 94)),(18,.rows m 3 S (.ty 99)),(19,.rows m 1 T (.ty 3))],df:=[]}
 |true=>{t:=tG k F (.own 16 n 1) (i+1),nt:=86,H:=hG q 22 [(15,.cT n K (λj=> .addr (b j) 0) (p_ (j,.ptr 17 0 0 0))),(16,.rows n 1 (eW b) (.ty 89)),(17,.cells [.ab g 1 (ae W),.own 20 (m+1) 3,.own 21 (m+1) 1] (.ty 94)),(20,.rows (m+1) 3 a (.ty 99)),(21,.rows (m+1) 1 c (.ty 3))],df:=[]}
def NL(q:Query)(k:Nat)(F:Nat->ay)(a b c:Nat)(i:Int)(l n:Nat)(Q:Prop){d}(e:d=[v_ q.nw 3 (au q.C),v_ q.ng 1 (aR q.G),e_ a_ q.a,e_ a_ q.fl,n_ q.nu,n_ q.de,e_ a_ q.top]):(kg [jW q,qj q 0] 40 4001 17 (ui q k F a b c (.own 16 n 1) i false) (ui q k F a b c (.own 16 n 1) i true) (λ_=>Q))=(ah (z (i<c_ k)) (aa (z (0<=i)&&z (i<c_ k)) (aa (qT q d&&ct q&&bB (F i.toNat)) (ah (!gk q (F i.toNat)) (aa (aN a_ (i+1)) (zyN q.nw (zyR q.nw (au q.C) (zyN q.ng (zyR q.ng (aR q.G) (zyI q.a (zyI q.fl (zyB q.nu (zyB q.de (zyI q.top (zyB [48] (zyB [49] (zyR 5 aA (zyN k ((an k (λi=>aF (F i)) λi=>aF (F i))/\zyI (i+1) (zyI (c_ k) (zyN n Q))))))))))))))))) (aa (qT q d&&ct q&&bB (F i.toNat)&&d_ q.ng 0) False)))) False):=by subst_vars;kernel_rfl
def QR(q:Query)(k n:Nat)(F:Nat->ay)(K:Nat->List Int)(b:Nat->Nat)(i:Int){d}(g:d=[v_ q.nw 3 (au q.C),v_ q.ng 1 (aR q.G),e_ a_ q.a,e_ a_ q.fl,n_ q.nu,n_ q.de,e_ a_ q.top]):(kg [jW q,qj q q.ng] 40 4001 17 (QQ q k n F K b [bif B 0 q.ng then bc q (F i.toNat) 0 else 0,bif B 1 q.ng then bc q (F i.toNat) 1 else 0,bif B 2 q.ng then bc q (F i.toNat) 2 else 0] q.ng (bc q (F i.toNat)) (kR q (F i.toNat)) (lJ q (F i.toNat)) (Br q (F i.toNat)) i false) (QQ q k n F K b [bif B 0 q.ng then bc q (F i.toNat) 0 else 0,bif B 1 q.ng then bc q (F i.toNat) 1 else 0,bif B 2 q.ng then bc q (F i.toNat) 2 else 0] q.ng (bc q (F i.toNat)) (kR q (F i.toNat)) (lJ q (F i.toNat)) (Br q (F i.toNat)) i true) (C4 n))=(ah (z (i<c_ k)) (aa (z (0<=i)&&z (i<c_ k)) (aa (qT q d&&ct q&&bB (F i.toNat)) (ah (!gk q (F i.toNat)) (aa (aN a_ (i+1)) (ax n (n+1) ((an n (eW b) λj=>bif d_ j n then [D_]else eW b j)/\ax 1 0 (ax 1 0 False)))) (aa (qT q d&&ct q&&bB (F i.toNat)&&d_ q.ng q.ng) (aa (y_ q.ng 3&&j_ (b_ q.ng) λi=>true) (aa (eA n K 3&&Kv n K [bif B 0 q.ng then bc q (F i.toNat) 0 else 0,bif B 1 q.ng then bc q (F i.toNat) 1 else 0,bif B 2 q.ng then bc q (F i.toNat) 2 else 0]) (aa (eA n K 3&&Kv n K [bif B 0 q.ng then bc q (F i.toNat) 0 else 0,bif B 1 q.ng then bc q (F i.toNat) 1 else 0,bif B 2 q.ng then bc q (F i.toNat) 2 else 0]) (aa (eA (n+1) (cZ n K [bif B 0 q.ng then bc q (F i.toNat) 0 else 0,bif B 1 q.ng then bc q (F i.toNat) 1 else 0,bif B 2 q.ng then bc q (F i.toNat) 2 else 0]) 3&&uI (n+1) (cZ n K [bif B 0 q.ng then bc q (F i.toNat) 0 else 0,bif B 1 q.ng then bc q (F i.toNat) 1 else 0,bif B 2 q.ng then bc q (F i.toNat) 2 else 0]) [bif B 0 q.ng then bc q (F i.toNat) 0 else 0,bif B 1 q.ng then bc q (F i.toNat) 1 else 0,bif B 2 q.ng then bc q (F i.toNat) 2 else 0] n) (aa (z (n<=n)&&true&&true&&z ((n+1)*8<=140737488355328)&&true) (aa (eA (n+1) (cZ n K [bif B 0 q.ng then bc q (F i.toNat) 0 else 0,bif B 1 q.ng then bc q (F i.toNat) 1 else 0,bif B 2 q.ng then bc q (F i.toNat) 2 else 0]) 3&&uI (n+1) (cZ n K [bif B 0 q.ng then bc q (F i.toNat) 0 else 0,bif B 1 q.ng then bc q (F i.toNat) 1 else 0,bif B 2 q.ng then bc q (F i.toNat) 2 else 0]) [bif B 0 q.ng then bc q (F i.toNat) 0 else 0,bif B 1 q.ng then bc q (F i.toNat) 1 else 0,bif B 2 q.ng then bc q (F i.toNat) 2 else 0] n) (aa (eA (n+1) (cZ n K [bif B 0 q.ng then bc q (F i.toNat) 0 else 0,bif B 1 q.ng then bc q (F i.toNat) 1 else 0,bif B 2 q.ng then bc q (F i.toNat) 2 else 0]) 3&&uI (n+1) (cZ n K [bif B 0 q.ng then bc q (F i.toNat) 0 else 0,bif B 1 q.ng then bc q (F i.toNat) 1 else 0,bif B 2 q.ng then bc q (F i.toNat) 2 else 0]) [bif B 0 q.ng then bc q (F i.toNat) 0 else 0,bif B 1 q.ng then bc q (F i.toNat) 1 else 0,bif B 2 q.ng then bc q (F i.toNat) 2 else 0] n) (aa (eA (n+1) (cZ n K [bif B 0 q.ng then bc q (F i.toNat) 0 else 0,bif B 1 q.ng then bc q (F i.toNat) 1 else 0,bif B 2 q.ng then bc q (F i.toNat) 2 else 0]) 3&&uI (n+1) (cZ n K [bif B 0 q.ng then bc q (F i.toNat) 0 else 0,bif B 1 q.ng then bc q (F i.toNat) 1 else 0,bif B 2 q.ng then bc q (F i.toNat) 2 else 0]) [bif B 0 q.ng then bc q (F i.toNat) 0 else 0,bif B 1 q.ng then bc q (F i.toNat) 1 else 0,bif B 2 q.ng then bc q (F i.toNat) 2 else 0] n) (aa (z ((bif B 0 q.ng then bc q (F i.toNat) 0 else 0)=bif B 0 q.ng then bc q (F i.toNat) 0 else 0)&&(z ((bif B 1 q.ng then bc q (F i.toNat) 1 else 0)=bif B 1 q.ng then bc q (F i.toNat) 1 else 0)&&(z ((bif B 2 q.ng then bc q (F i.toNat) 2 else 0)=bif B 2 q.ng then bc q (F i.toNat) 2 else 0)&&true))) (aa (eA (n+1) (cZ n K [bif B 0 q.ng then bc q (F i.toNat) 0 else 0,bif B 1 q.ng then bc q (F i.toNat) 1 else 0,bif B 2 q.ng then bc q (F i.toNat) 2 else 0]) 3&&uI (n+1) (cZ n K [bif B 0 q.ng then bc q (F i.toNat) 0 else 0,bif B 1 q.ng then bc q (F i.toNat) 1 else 0,bif B 2 q.ng then bc q (F i.toNat) 2 else 0]) [bif B 0 q.ng then bc q (F i.toNat) 0 else 0,bif B 1 q.ng then bc q (F i.toNat) 1 else 0,bif B 2 q.ng then bc q (F i.toNat) 2 else 0] n) (aa (eA (n+1) (cZ n K [bif B 0 q.ng then bc q (F i.toNat) 0 else 0,bif B 1 q.ng then bc q (F i.toNat) 1 else 0,bif B 2 q.ng then bc q (F i.toNat) 2 else 0]) 3&&uI (n+1) (cZ n K [bif B 0 q.ng then bc q (F i.toNat) 0 else 0,bif B 1 q.ng then bc q (F i.toNat) 1 else 0,bif B 2 q.ng then bc q (F i.toNat) 2 else 0]) [bif B 0 q.ng then bc q (F i.toNat) 0 else 0,bif B 1 q.ng then bc q (F i.toNat) 1 else 0,bif B 2 q.ng then bc q (F i.toNat) 2 else 0] n) (aa (eA (n+1) (cZ n K [bif B 0 q.ng then bc q (F i.toNat) 0 else 0,bif B 1 q.ng then bc q (F i.toNat) 1 else 0,bif B 2 q.ng then bc q (F i.toNat) 2 else 0]) 3&&uI (n+1) (cZ n K [bif B 0 q.ng then bc q (F i.toNat) 0 else 0,bif B 1 q.ng then bc q (F i.toNat) 1 else 0,bif B 2 q.ng then bc q (F i.toNat) 2 else 0]) [bif B 0 q.ng then bc q (F i.toNat) 0 else 0,bif B 1 q.ng then bc q (F i.toNat) 1 else 0,bif B 2 q.ng then bc q (F i.toNat) 2 else 0] n) (aa (z ((bif B 0 q.ng then bc q (F i.toNat) 0 else 0)=bif B 0 q.ng then bc q (F i.toNat) 0 else 0)&&(z ((bif B 1 q.ng then bc q (F i.toNat) 1 else 0)=bif B 1 q.ng then bc q (F i.toNat) 1 else 0)&&(z ((bif B 2 q.ng then bc q (F i.toNat) 2 else 0)=bif B 2 q.ng then bc q (F i.toNat) 2 else 0)&&true))) (aa (aN a_ (i+1)) (zyN (n+1) ((an (n+1) (λi=>bif B i n then eW b i else i_ 1 (f_ (0+(i-n)*1) [w_ 20 0 0 0])) λj=>bif d_ j n then [D_]else eW b j)/\(an 1 (fW [e_ a_ i] 1) λx=>[e_ a_ i])/\(an 1 (fW [e_ a_ (kR q (F i.toNat)),e_ a_ (lJ q (F i.toNat)),B_ (Br q (F i.toNat))] 3) λx=>[e_ a_ (kR q (F i.toNat)),e_ a_ (lJ q (F i.toNat)),B_ (Br q (F i.toNat))])/\zyN q.ng (zyR q.ng (ae (bc q (F i.toNat))) (zyN (n+1) ((∀(c:Nat),c<n+1->cZ n K [bif B 0 q.ng then bc q (F i.toNat) 0 else 0,bif B 1 q.ng then bc q (F i.toNat) 1 else 0,bif B 2 q.ng then bc q (F i.toNat) 2 else 0] c=cZ n K [bif B 0 q.ng then bc q (F i.toNat) 0 else 0,bif B 1 q.ng then bc q (F i.toNat) 1 else 0,bif B 2 q.ng then bc q (F i.toNat) 2 else 0] c/\∀(σ:Nat->Nat),AV.le σ (nz n (λj=>H_ (b j) 0) (w_ 20 0 0 0) c) (bif d_ c n then D_ else H_ (b c) 0))/\zyN n (zyN q.nw (zyR q.nw (au q.C) (zyN q.ng (zyR q.ng (aR q.G) (zyI q.a (zyI q.fl (zyB q.nu (zyB q.de (zyI q.top (zyB [48] (zyB [49] (zyR 5 aA (zyN k ((an k (λi=>aF (F i)) λi=>aF (F i))/\zyI (i+1) (zyI (c_ k) (zyN (n+1) ((bif B n n then eW b n else Nat.rec (motive:=λx=>E_ (motive:=λx=>List AV->List AV) x->List AV) (λx=>[]) (λe f=>List.casesOn (motive:=λx=>E_ (motive:=λx=>List AV->List AV) (e+1)->List AV) (f_ (0+(n-n)*1) [w_ 20 0 0 0]) (λx=>[]) λhead tail x=>head::x.1 tail) 1 ⟨λx=>[],PUnit.unit⟩)=[w_ 20 0 0 0])))))))))))))))))))))))))))))))))))))))) False):=by subst_vars;kernel_rfl
def QS(q:Query)(k n:Nat)(F:Nat->ay)(K:Nat->List Int)(b:Nat->Nat)(j m:Nat)(W:Nat->Int)(S T f g:Nat->List AV)(i:Int)(Q:Prop){d}(h:d=(zyN n (zyR n (eW b) (zyN n ((∀(i:Nat),i<n->K i=K i/\∀(σ:Nat->Nat),b i=b i/\0=0)/\zyN j (zyN q.nw (zyR q.nw (au q.C) (zyN q.ng (zyR q.ng (aR q.G) (zyI q.a (zyI q.fl (zyB q.nu (zyB q.de (zyI q.top (zyB [48] (zyB [49] (zyR 5 aA (zyN k ((an k (λi=>aF (F i)) λi=>aF (F i))/\zyI (i+1) (zyI (c_ k) (zyN n Q))))))))))))))))))))){e}(l:e=[v_ q.nw 3 (au q.C),v_ q.ng 1 (aR q.G),e_ a_ q.a,e_ a_ q.fl,n_ q.nu,n_ q.de,e_ a_ q.top]):(kg [jW q,qj q q.ng] 40 4001 20 (Fx q k n F K b j q.ng W m S T f g i false) (Fx q k n F K b j q.ng W m S T f g i true) (λ_=>Q))=(ah (z (i<c_ k)) (aa (z (0<=i)&&z (i<c_ k)) (aa (qT q e&&ct q&&bB (F i.toNat)) (ah (!gk q (F i.toNat)) (aa (aN a_ (i+1)) (ax m (m+1) (an m T g/\ax m (m+1) (an m S f/\zyN q.ng (zyR q.ng (ae W) (ax m (m+1) (ax m (m+1) d))))))) (aa (qT q e&&ct q&&bB (F i.toNat)&&d_ q.ng q.ng) (aa (y_ q.ng 3&&j_ (b_ q.ng) λi=>true) (aa (eA n K 3&&uI n K [bif B 0 q.ng then bc q (F i.toNat) 0 else 0,bif B 1 q.ng then bc q (F i.toNat) 1 else 0,bif B 2 q.ng then bc q (F i.toNat) 2 else 0] j) (aa (eA n K 3&&uI n K [bif B 0 q.ng then bc q (F i.toNat) 0 else 0,bif B 1 q.ng then bc q (F i.toNat) 1 else 0,bif B 2 q.ng then bc q (F i.toNat) 2 else 0] j) (aa (eA n K 3&&uI n K [bif B 0 q.ng then bc q (F i.toNat) 0 else 0,bif B 1 q.ng then bc q (F i.toNat) 1 else 0,bif B 2 q.ng then bc q (F i.toNat) 2 else 0] j) (aa (z (m<=m)&&true&&true&&z ((m+1)*24<=140737488355328)&&true) (aa (eA n K 3&&uI n K [bif B 0 q.ng then bc q (F i.toNat) 0 else 0,bif B 1 q.ng then bc q (F i.toNat) 1 else 0,bif B 2 q.ng then bc q (F i.toNat) 2 else 0] j) (aa (z ((bif B 0 q.ng then bc q (F i.toNat) 0 else 0)=bif B 0 q.ng then bc q (F i.toNat) 0 else 0)&&(z ((bif B 1 q.ng then bc q (F i.toNat) 1 else 0)=bif B 1 q.ng then bc q (F i.toNat) 1 else 0)&&(z ((bif B 2 q.ng then bc q (F i.toNat) 2 else 0)=bif B 2 q.ng then bc q (F i.toNat) 2 else 0)&&true))) (aa (eA n K 3&&uI n K [bif B 0 q.ng then bc q (F i.toNat) 0 else 0,bif B 1 q.ng then bc q (F i.toNat) 1 else 0,bif B 2 q.ng then bc q (F i.toNat) 2 else 0] j) (aa (eA n K 3&&uI n K [bif B 0 q.ng then bc q (F i.toNat) 0 else 0,bif B 1 q.ng then bc q (F i.toNat) 1 else 0,bif B 2 q.ng then bc q (F i.toNat) 2 else 0] j) (aa (z (m<=m)&&true&&true&&z ((m+1)*8<=140737488355328)&&true) (aa (eA n K 3&&uI n K [bif B 0 q.ng then bc q (F i.toNat) 0 else 0,bif B 1 q.ng then bc q (F i.toNat) 1 else 0,bif B 2 q.ng then bc q (F i.toNat) 2 else 0] j) (aa (z ((bif B 0 q.ng then bc q (F i.toNat) 0 else 0)=bif B 0 q.ng then bc q (F i.toNat) 0 else 0)&&(z ((bif B 1 q.ng then bc q (F i.toNat) 1 else 0)=bif B 1 q.ng then bc q (F i.toNat) 1 else 0)&&(z ((bif B 2 q.ng then bc q (F i.toNat) 2 else 0)=bif B 2 q.ng then bc q (F i.toNat) 2 else 0)&&true))) (aa (aN a_ (i+1)) (zyN (m+1) (an (m+1) (λc=>bif B c m then T c else i_ 1 (f_ (0+(c-m)*1) [e_ a_ i])) g/\zyN (m+1) (an (m+1) (λc=>bif B c m then S c else i_ 3 (f_ (0+(c-m)*3) [e_ a_ (kR q (F i.toNat)),e_ a_ (lJ q (F i.toNat)),B_ (Br q (F i.toNat))])) f/\zyN q.ng (zyR q.ng (ae W) (zyN (m+1) (zyN (m+1) d))))))))))))))))))))))) False):=by subst_vars;kernel_rfl
def AH.C5(N:Nat)(f:Nat->ABlk):AH:={n:=N,t:=(b_ N).foldl (λt i=>t.set i (f i)) .e}
def y2(f:Nat->ABlk)(l:Nat):∀N,((b_ N).foldl (λt i=>t.set i (f i)) (.e:Tr ABlk)).get l=if l<N then p_ (f l)else z_
 |0=>rfl
 |N+1=>by
  rw[List.range_succ,List.foldl_append]
  show(Tr.set _ N (f N)).get l=_
  rw[Tr.bH,y2 f l N]
  by_cases h:l=N
  ·subst h;rw[if_pos A,if_pos O]
  ·rw[if_neg h]
   by_cases a:l<N
   ·rw[if_pos a,if_pos O]
   ·rw[if_neg a,if_neg O]
def AH.tb(N:Nat)(f:Nat->ABlk)(l:Nat):(AH.C5 N f).get l=if l<N then f l else .dead:=by
 unfold AH.C5 AH.get
 simp only[y2]
 by_cases h:l<N
 ·rw[if_pos h,if_pos h]
 ·rw[if_neg h,if_neg h]
def td{ks:List (aC PP II)}{f key n0:Nat}{s C:St}{Q:St->Prop}(h:kg ks f key n0 s C Q){SB:St}{σ:Nat->Nat}(ht:∀i,cR SB.t i=(cR s.t i).bD σ)(o:SB.nt=s.nt)(k:s.df=[]/\SB.df=[])
  (ro:Option Nat) (n:Nat) (c:fw) (ρ:Env) (a:Act) (w:World) (q:ro=z_) (hG:c.G=II.G) (F:Sub c.G σ s.H SB.H) (m:cA c ρ SB a w):
  (aD II f key).wpIn (WF ro) n PP (λx a1 D=>x= .normal/\∃d j,St.Le n0 d C/\Q d/\cA (c.iT ρ s.H SB.H σ w) j d a1 D) a w:=by
 obtain⟨e,l,I⟩:=nH iw ks (bm PP II []) 1000 false _ _ _ h
 have u:cA (c.iT ρ s.H SB.H σ w) (ρ.fC σ) s a w:=by
  refine⟨⟨m.tmp.1.trans o,λi=>?_⟩,m.heap.iT F,?_⟩
  ·have:=m.tmp.2 i
   rw[ht]at this
   exact VR.gR _ _ this
  ·have:=m.df
   rw[k.2]at this
   rw[k.1]
   exact this
 have J:(aD II f key).wpIn (WF ro) n PP (e.post (c.iT ρ s.H SB.H σ w) (ρ.fC σ)) a w:=I ro n (c.iT ρ s.H SB.H σ w) (ρ.fC σ) a w (λ_=>q) hG u
 refine wpIn_mono J λx a1 D E=>?_
 cases e with
 |n d=>
  cases x with
  |normal=>
   obtain⟨j,_,y⟩:=E
   obtain⟨k1,k2⟩:=mF.ok (K:=Q d) l
   exact⟨rfl,d,j,k1,k2,y⟩
  |_=>exact E.elim
 |x b d=>exact(l:False).elim
 |g b d=>exact(l:False).elim
 |r d=>exact(l:False).elim
 |p v d=>exact(l:False).elim
def pJ{c:fw}{ρ:Env}{SB:St}{a:Act}{w:World}{s:St}{σ:Nat->Nat}(o:cA c ρ SB a w)(p:Sub c.G σ s.H SB.H){d:St}{b:Env}{a1:Act}{k:World}(g:cA (c.iT ρ s.H SB.H σ w) b d a1 k){SB':St}(t:Eb σ s.H d.H SB.H SB'.H)(ht:∀i,cR SB'.t i=(cR d.t i).bD σ)(h:SB'.nt=d.nt)(f:d.df=[]/\SB'.df=[]):
  ∃ρ',Ext ρ ρ'/\(∀l,ρ' (σ l)=b l)/\cA c ρ' SB' a1 k:=by
 obtain⟨hx,m,j⟩:=o.heap.KY p g.heap t
 refine⟨_,hx,m,⟨g.tmp.1.trans h.symm,λi=>?_⟩,j,?_⟩
 ·rw[ht]
  exact VR.bD (show uy σ b (ρ.back b s.H.n SB.H.n)from⟨λl x e=>(m l).trans e,λ_ _ e=>e⟩) _ _ (g.tmp.2 i)
 ·have:=g.df
  rw[f.1]at this
  rw[f.2]
  exact this
def oe(i:Nat):List AV:=[.ptr (17+3*i) 0 0 0]
def oO{ρ:Env}{l:Nat}{v:Value}:VR ρ (.ptr l 0 0 0) v↔ ∃b N,ρ l=p_ (b,N)/\v= .pointer (p_ ⟨b,0,z_⟩):=by
 simp only[VR,Nat.zero_mul,x_]
def C6{c:fw}{ρ:Env}{w:World}{H:AH}{n:Nat}{K:Nat->List Int}(t:Rel c ρ H w)(k:H.get 15= .cT n K (λj=> .ptr (17+3*j) 0 0 0) z_)(o:H.get 16= .rows n 1 oe (.ty 89)):
  ∃b:Nat->Nat,(∀j,j<n->∃N,ρ (17+3*j)=p_ (b j,N))/\∀foc:Option (Nat×AV),(∀j a,foc=p_ (j,a)->j<n/\a= .ptr (17+3*j) 0 0 0)->
   Rel c ρ ((H.set 15 (.cT n K (λj=> .addr (b j) 0) foc)).set 16 (.rows n 1 (eW b) (.ty 89))) w:=by
 have s:=t.dF 15
 rw[k]at s
 obtain⟨O,P,u,Q,R,C,_⟩:=s
 have ex:∀j,∃b,j<n->∃N,ρ (17+3*j)=p_ (b,N):=λj=>by
  by_cases p:j<n
  ·obtain⟨b,N,q,_⟩:=oO.1 (C j p)
   exact⟨b,λ_=>⟨N,q⟩⟩
  ·exact⟨0,λh=>absurd h p⟩
 obtain⟨b,x⟩:=F_ ex
 have conv:∀j,j<n->∀v,VR ρ (.ptr (17+3*j) 0 0 0) v->VR ρ (.addr (b j) 0) v:=λj p v D=>by
  obtain⟨S,T,q,rfl⟩:=oO.1 D
  obtain⟨N,r⟩:=x j p
  rw[q]at r
  cases r
  simp only[VR]
 refine⟨b,x,λfoc E=>?_⟩
 have g:∀l,((H.set 15 (.cT n K (λj=> .addr (b j) 0) foc)).set 16 (.rows n 1 (eW b) (.ty 89))).get l=if l=16 then .rows n 1 (eW b) (.ty 89)else if l=15 then .cT n K (λj=> .addr (b j) 0) foc else H.get l:=λl=>by
  rw[AH.bH,AH.bH]
 refine t.alike A (λl hl=>?_) (λl=>?_) λl=>?_
 ·rw[g]
  by_cases m:l=16
  ·subst m
   rw[if_pos A]
   rw[o]at hl
   refine⟨λ_ _=>rfl,?_⟩
   rcases hl.2 with⟨q,r⟩|⟨bb,N,vs,rest,el,fr,q,r,F,G,d⟩
   ·left
    refine⟨?_,r⟩
    cases n with
    |zero=>rfl
    |succ n=>
     have:=congrArg A_ q
     rw[bE (n:=n+1) (e:=1) (f:=oe) λ_ _=>rfl]at this
     simp at this
   ·right
    refine⟨bb,N,vs,rest,el,fr,q,r,F,?_,d⟩
    obtain⟨q1,I⟩:=mT (f:=oe) (λ_=>rfl) G
    refine oI q1 λi hi=>?_
    obtain⟨v,J,L⟩:=I i hi
    exact⟨v,J,aU.aL.2 ⟨conv i hi v (aU.aL.1 L).1,zH⟩⟩
  ·rw[if_neg m]
   by_cases d:l=15
   ·subst d
    rw[if_pos A]
    rw[k]at hl
    obtain⟨bb,N,u,f1,M,y,_⟩:=hl
    refine⟨bb,N,u,f1,M,λi hi=>conv i hi _ (y i hi),λj a e=>?_⟩
    obtain⟨p,rfl⟩:=E j a e
    exact⟨p,y j p⟩
   ·rw[if_neg d];exact hl
 ·rw[g]
  by_cases m:l=16
  ·subst m;rw[if_pos A,o];rfl
  ·rw[if_neg m]
   by_cases d:l=15
   ·subst d;rw[if_pos A,k];rfl
   ·rw[if_neg d]
 ·rw[g]
  by_cases m:l=16
  ·subst m;rw[if_pos A,o];exact⟨(λe=>zC),(λe=>zC)⟩
  ·rw[if_neg m]
   by_cases d:l=15
   ·subst d;rw[if_pos A,k];exact⟨(λe=>zC),(λe=>zC)⟩
   ·rw[if_neg d]
def G8{c:fw}{ρ:Env}{w:World}{H:AH}{n L:Nat}{K:Nat->List Int}{P:Nat->AV}{foc:Option (Nat×AV)}{R:Nat->List AV}(p:Rel c ρ H w)(hL:L≠15)(d:H.get 15= .cT n K P foc)(k:H.get L= .rows n 1 R (.ty 89))(m:∀i,(R i).length=1)
  (q:∀j,j<n->foc=p_ (j,.ptr (17+3*j) 0 0 0)∨∀v,VR ρ (P j) v->VR ρ (.ptr (17+3*j) 0 0 0) v) (r:∀j,j<n->∀v,aU ρ (R j) [v]->VR ρ (.ptr (17+3*j) 0 0 0) v):
  Rel c ρ ((H.set 15 (.cT n K (λj=> .ptr (17+3*j) 0 0 0) z_)).set L (.rows n 1 oe (.ty 89))) w:=by
 have g:∀l,((H.set 15 (.cT n K (λj=> .ptr (17+3*j) 0 0 0) z_)).set L (.rows n 1 oe (.ty 89))).get l=if l=L then .rows n 1 oe (.ty 89)else if l=15 then .cT n K (λj=> .ptr (17+3*j) 0 0 0) z_ else H.get l:=λl=>by
  rw[AH.bH,AH.bH]
 refine p.alike A (λl hl=>?_) (λl=>?_) λl=>?_
 ·rw[g]
  by_cases b:l=L
  ·subst b
   rw[if_pos A]
   rw[k]at hl
   refine⟨λ_ _=>rfl,?_⟩
   rcases hl.2 with⟨h1,o⟩|⟨bb,N,vs,rest,el,fr,h1,o,s,t,a⟩
   ·left
    refine⟨?_,o⟩
    cases n with
    |zero=>rfl
    |succ n=>
     have:=congrArg A_ h1
     rw[bE (n:=n+1) (e:=1) (f:=R) λi _=>m i]at this
     simp at this
   ·right
    refine⟨bb,N,vs,rest,el,fr,h1,o,s,?_,a⟩
    obtain⟨q1,x⟩:=mT m t
    refine oI q1 λi hi=>?_
    obtain⟨v,y,C⟩:=x i hi
    exact⟨v,y,aU.aL.2 ⟨r i hi v C,zH⟩⟩
  ·rw[if_neg b]
   by_cases a:l=15
   ·subst a
    rw[if_pos A]
    rw[d]at hl
    obtain⟨bb,N,u,f1,D,E,F⟩:=hl
    refine⟨bb,N,u,f1,D,λi hi=>?_,λ_ _ e=>zC⟩
    rcases q i hi with h|h
    ·exact(F _ _ h).2
    ·exact h _ (E i hi)
   ·rw[if_neg a];exact hl
 ·rw[g]
  by_cases b:l=L
  ·subst b;rw[if_pos A,k];rfl
  ·rw[if_neg b]
   by_cases a:l=15
   ·subst a;rw[if_pos A,d];rfl
   ·rw[if_neg a]
 ·rw[g]
  by_cases b:l=L
  ·subst b;rw[if_pos A,k];exact⟨(λe=>zC),(λe=>zC)⟩
  ·rw[if_neg b]
   by_cases a:l=15
   ·subst a;rw[if_pos A,d];exact⟨(λe=>zC),(λe=>zC)⟩
   ·rw[if_neg a]
end
end Go.Sx
