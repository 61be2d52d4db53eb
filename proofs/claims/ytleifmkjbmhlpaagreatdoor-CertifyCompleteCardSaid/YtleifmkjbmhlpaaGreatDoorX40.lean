/- The proof of a statement of the seat, part 40. -/
import Derived.Test.YtleifmkjbmhlpaaGreatDoorX39
import Derived.Test.YtleifmkjbmhlpaaGreatDoorX36
import Derived.Test.YtleifmkjbmhlpaaGreatDoorX35
set_option linter.all false
set_option linter.defProp false
set_option maxRecDepth 1000000
namespace Go.Sx
open Go
open Nat renaming blt->M,beq->d_,zero_le->l_,ble->t_,below->z_
open Decidable renaming decide->z
open Go.IntKind renaming i64->a_
open List renaming range->b_,drop->f_,take->h_,all->i_,ne_nil_of_mem->n_,length_append->o_,all_eq_true->p_,length->v_
open Int renaming ofNat->c_,toNat->q_
open AV renaming int->e_,str->k_,ae->r_,ptr->s_,bool->w_,any->y_,bx->B_,addr->C_
open Classical renaming byContradiction->g_,axiomOfChoice->A_
open Option renaming some->m_,none->u_
noncomputable section
def Ap(q:Query):Query:=⟨q.nw,aF (av q.C),q.ng,λj=>q.G j,q.a,q.fl,q.nu,q.de,q.top⟩
def Aq(q)(x):∀j,lg (Ap q) x j=lg q x j
 |0=>rfl
 |j+1=>by show eA (Ap q) x j (lg (Ap q) x j)=eA q x j (lg q x j);rw[Aq q x j];rfl
def Og(q)(x):gn (Ap q) x=gn q x:=by
 unfold gn ky;have:cY (Ap q) x=cY q x:=Aq q x q.nw;rw[this]
def Gt{n p}(h:∀i,p i=true):i_ (List.range.loop n []) p=true:=Y
def aaI(q:Query)(x:ao):Bool:=iL q.nw q.C (cD (loI x) (hiI x))
def Oh(q)(x):nk (Ap q) x=nk q x:=by
 unfold nk ky;have:cY (Ap q) x=cY q x:=Aq q x q.nw;rw[this]
structure Ta (e:Query) (x:ao) (b:Nat) (s:T8):Prop where
 other:s.c=true->∀k,k<b->e.C k 0≠8->Sz (e.C k 1) (lF x (e.C k 0) 0) (e.C k 2)=true
 own:∀a,s.lo<=a->a<=s.hi->(∀m,m<s.n->s.K m≠a)->x.l<=a/\a<=x.h/\∀k,k<b->e.C k 0=8->Sz (e.C k 1) a (e.C k 2)=true
 low:s.lo=x.l∨∃k,k<b/\s.lo=e.C k 2
 out:∀m,m<s.n->∃k,k<b/\s.K m=e.C k 2
def Tb{v K n}:eS v K n=true↔ ∃m,m<n/\K m=v:=by
 unfold eS
 grind
def Xf(q)(x)(v:∀j,j<q.nw->1<=q.C j 1/\q.C j 1<=4):∀j,j<=q.nw->Ta q x j (lg q x j)
 |0,_=>⟨O,λd f o _=>⟨f,o,O⟩,.inl A,λm c=>absurd c (qx _)⟩
 |j+1,E=>by
  have g:=Xf q x v j O;have F:=v j O;show Ta q x (j+1) (eA q x j (lg q x j));generalize lg q x j=s at g;have i:∀(b:Prop) [Decidable b],(b->eS (q.C j 2) s.K s.n=false)->∀m,m<(if b then s.n+1 else s.n)->(b/\m=s.n/\(if b then dT s.n s.K (q.C j 2)else s.K) m=q.C j 2)∨(m<s.n/\(if b then dT s.n s.K (q.C j 2)else s.K) m=s.K m):=by
   intro b _ _ m c;by_cases a:b
   ·simp only[a,if_true]at c⊢;by_cases e:m=s.n
    ·exact .inl ⟨trivial,e,by subst e;simp[dT]⟩
    ·refine .inr ⟨O,?_⟩;have:d_ m s.n=false:=by
      cases h:d_ m s.n with
      |false=>rfl
      |true=>simp_all
     simp[dT,this]
   ·grind
  refine⟨λh k p w=>?_,λd f o h3=>?_,?_,λm c=>?_⟩
  ·simp only[eA,ba,Bool.or_eq_true,bl]at h;by_cases e:k=j
   grind
   ·exact g.other h.1 k O w
  ·simp only[eA]at f o h3;have r:s.lo<=d:=by
    revert f;split
    ·split<;>omega
    ·omega
   have t:d<=s.hi:=by
    revert o;split
    ·split<;>omega
    ·omega
   have y:∀m,m<s.n->s.K m≠d:=λm c=>by
    by_cases a:q.C j 0=8/\q.C j 1=2/\eS (q.C j 2) s.K s.n=false
    ·have:=h3 m (by rw[if_pos a];omega);rw[if_pos a]at this;have e:d_ m s.n=false:=by
      cases h:d_ m s.n with
      |false=>rfl
      |true=>simp_all
     simpa [dT,e]using this
    grind
   obtain⟨a1,a2,G⟩:=g.own d r t y;refine⟨a1,a2,λk p w=>?_⟩;by_cases e:k=j
   ·subst e;unfold Sz;rw[bl];have u:q.C k 1=1∨q.C k 1=2∨q.C k 1=3∨q.C k 1=4:=O;rcases u with h|h|h|h
    omega
    ·right;left;refine⟨h,λe=>?_⟩;by_cases a:eS (q.C k 2) s.K s.n=true
     ·obtain⟨m,c,D⟩:=Tb.1 a
      grind
     ·have a:q.C k 0=8/\q.C k 1=2/\eS (q.C k 2) s.K s.n=false:=by grind
      have:=h3 s.n (by rw[if_pos a];omega);rw[if_pos a]at this;exact this (by simp[dT,e])
    all_goals omega
   grind
  ·simp only[eA];have old:s.lo=x.l∨∃k,k<j+1/\s.lo=q.C k 2:=g.low.imp id λ⟨k,p,e⟩=>⟨k,O,e⟩
   grind
  ·simp only[eA]at c⊢;rcases i (q.C j 0=8/\q.C j 1=2/\eS (q.C j 2) s.K s.n=false) (λh=>h.2.2) m c with⟨_,_,e⟩|⟨f,e⟩
   grind
   ·obtain⟨k,p,D⟩:=g.out m f
    grind
def Lf(lo:Int)(K:Nat->Int)(S:List Nat):∀n:Nat,(∀d,lo<=d->d<lo+n->∃m,m∈S/\K m=d)->n<=(S.filter λm=>z (lo<=K m)&&z (K m<lo+n)).length
 |0,_=>l_ _
 |n+1,h=>by
  have b:=Lf lo K S n Y;obtain⟨m,c,e⟩:=h (lo+n) O O;have split:∀S:List Nat,(S.filter λm=>z (lo<=K m)&&z (K m<lo+(n+1:Nat))).length=(S.filter λm=>z (lo<=K m)&&z (K m<lo+n)).length+(S.filter λm=>z (K m=lo+n)).length:=by
   intro S
   induction S with
   |nil=>rfl
   |cons a S b=>
    grind
  rw[split S];have:0<(S.filter λm=>z (K m=lo+n)).length:=List.length_pos_iff.2 (n_ (List.mem_filter.2 ⟨c,by simp[e]⟩));omega
def V7{q x}(u:fx q=true)(c:gn q x=true):∃d,(K1 x d&&eU q x d)=true/\(d=x.l∨∃k,k<q.nw/\(d=q.C k 2∨d=q.C k 2+1)):=by
 obtain⟨_,y⟩:=gM u;have g:=Xf q x (by simp_all) q.nw (dP _);unfold gn ky fL sR at c;simp only[ba,bl]at c;obtain⟨o,v⟩:=c;have g:Ta q x q.nw (cY q x):=g;generalize cY q x=s at g o v;apply g_;intro f;have key:∀n:Nat,∀d,s.lo<=d->d<s.lo+n->d<=s.hi->∃m,m<s.n/\s.K m=d:=by
  intro n
  induction n with
  |zero=>intro d h3 h4;omega
  |succ n p=>
   intro d h3 h4 r;by_cases e:d<s.lo+n
   ·exact p d h3 e r
   apply g_;intro a;have a:∀m,m<s.n->s.K m≠d:=by simp_all
   obtain⟨a1,a2,D⟩:=g.own d h3 r a;refine f ⟨d,?_,?_⟩
   ·simp only[ba];refine⟨by unfold K1;grind,?_⟩;unfold eU;rw[p_];intro k b;have b:=List.mem_range.1 b;unfold nW;by_cases i:q.C k 0=8
    ·have:lF x (q.C k 0) d=d:=by rw[i];rfl
     grind
    ·have:lF x (q.C k 0) d=lF x (q.C k 0) 0:=by
      unfold lF;simp only[i,if_false]
     rw[this];exact g.other o k b i
   ·by_cases E:n=0
    ·have:d=s.lo:=by omega
     rcases g.low with h|⟨k,b,h⟩
     all_goals grind
    ·obtain⟨m,w,F⟩:=p (d-1) O O O;obtain⟨k,b,G⟩:=g.out m w
     grind
 have H:0<s.hi-s.lo+1:=by have:(0:Int)<=(((b_ s.n).filter λj=>z (s.lo<=s.K j)&&z (s.K j<=s.hi)).length:Int):=Int.natCast_nonneg _;omega
 have t:=Lf s.lo s.K (b_ s.n) (s.hi-s.lo+1).toNat Y
 grind
def OY(q:Query)(x:ao)(d:Int):Bool:=K1 x d&&eU q x d
def Js(q)(x)(c)(D)(N)(V)(n)(i b j)(m:Nat)(E:j=(m:Int))(F:m<3)(t:ar 3 q.nw (av q.C)=true)(u:ar 1 q.ng (aN q.G)=true)(v:fx q=true)(hx:bE x=true)
  (H:N j<=1000) (f:OY q x (b-1+m)=true->N (j+1)=N j+1/\V (N j)=b-1+m) (d:OY q x (b-1+m)=false->N (j+1)=N j) (Q) (hQ:Q):
  kr [oo] [] 100 11001 39 (ri q x c D N V i b) (λ_=>oZ q x c D n V i) (λj=>j+1) Q j:=by
 rw[Ck _ _ _ _ _ _ _ _ _ _ _ A];have s:q_ j=m:=O;have w:c_ (0+q_ j)=(m:Int):=by rw[s,Nat.zero_add];rfl
 have o:fx ⟨q.nw,λj k=>cT (av q.C j) k,q.ng,λj=>q.G j,q.a,q.fl,q.nu,q.de,q.top⟩=true:=v;have y:eU ⟨q.nw,λj k=>cT (av q.C j) k,q.ng,λj=>q.G j,q.a,q.fl,q.nu,q.de,q.top⟩ x (b-1+m)=eU q x (b-1+m):=rfl;rw[w,s,o,y,hx];have hi:aJ a_ (j+1)=true:=ai O O;have tail:∀(k:Nat),k=N (j+1)->(an k (ah V) (ah V))->bh k (N (j+1)) (an k (ah V) (ah V)/\True):=λk e r=>aan e ⟨r,trivial⟩
 refine aaA (λ_=>?_) O;refine ZE _ _ Y (ZE _ _ Y (ZE _ _ (by show(ar 3 q.nw (av q.C)&&ar 1 q.ng (aN q.G)&&true&&true)=true;rw[t,u];rfl) ?_));cases g:K1 x (b-1+m)with
 |true=>
  refine aaA (λ_=>?_) λh=>absurd A h
  have p:OY q x (b-1+m)=eU q x (b-1+m):=by unfold OY;rw[g];rfl
  rw[p]at f d;cases l:eU q x (b-1+m)with
  |true=>
   obtain⟨k1,k2⟩:=f l;have rows:=iY V (N j) (b-1+m) k2.symm;refine ZE _ _ Y (ZE _ _ hi ?_);have k1:=k1.symm
   repeat' (first|exact hQ|exact rows|exact gW _ _|exact cM _ _|exact dJ _ _|exact bV|with_reducible rfl|refine aag A ?_|refine aan k1 ?_|refine aan A ?_|refine aaY A ?_|refine And.intro ?_ ?_)
  |false=>have k1:=(d l).symm;refine ZE _ _ hi ?_;exact ZC
 |false=>
  refine aaA zA λ_=>?_
  have k1:=(d (by unfold OY;rw[g];rfl)).symm;refine ZE _ _ hi ?_;exact ZC
def Tc(q)(x)(c)(D)(N)(V)(n)(i a j)(d:j=3)(b:N j=n)(Q):
  kr [oo] [] 100 11001 39 (ri q x c D N V i a) (λ_=>oZ q x c D n V i) (λj=>j+1) Q j:=by
 rw[Ck _ _ _ _ _ _ _ _ _ _ _ A];refine aaA O λ_=>?_
 repeat' (first|exact trivial|exact gW _ _|exact cM _ _|exact dJ _ _|exact bV|with_reducible rfl|refine aag A ?_|refine aan b ?_|refine aan A ?_|refine aaY A ?_|refine And.intro ?_ ?_)
def abt(a):an 3 (bY [.int a_ (a-1),.int a_ a,.int a_ (a+1)] 1) (ah λk=>a-1+c_ k):=λk b σ=>by
 match k,b with
 |0,_=>exact⟨⟨rfl,by show a-1=a-1+(0:Int);omega⟩,trivial⟩
 |1,_=>exact⟨⟨rfl,by show a=a-1+(1:Int);omega⟩,trivial⟩
 |2,_=>exact⟨⟨rfl,by show a+1=a-1+(2:Int);omega⟩,trivial⟩
 |k+3,h=>omega
def Gu(q)(x)(c)(D)(N a)(V)(n b)(i)(m:Nat)(hi:i=(m:Int))(f:m<q.nw+2)(g:q.nw<=6)(h : -1<=D m 2/\D m 2<=4398046511104)
  (hl:ay PP II false (az II 100 11001) 39 (ri q x c D a V i (D i.toNat 2) 0) (oZ q x c D b V i)) (k1:N i=a 0) (k2:b=N (i+1)) (Q) (hQ:Q):
  kr [oo] [(11001,39,ri q x c D a V i (D i.toNat 2) 0,oZ q x c D b V i)] 100 8001 36 (Gl q x c D N V) (λ_=>Bf q x c n V) (λj=>j+1) Q i:=by
 rw[Aj];have e:q_ i=m:=O;have k:c_ (q.nw+2)=(q.nw:Int)+2:=rfl;rw[e]at hl⊢;have c3:=abt (D m 2);refine aaA (λ_=>?_) O;refine ZE _ _ Y (ZE _ _ Y (ZE _ _ (ai O O) (ZE _ _ (ai O O) ⟨hl,?_⟩)));have d:aJ a_ (i+1)=true:=ai O O
 repeat' (first|exact hQ|exact c3|exact gW _ _|exact cM _ _|exact dJ _ _|exact bV|with_reducible rfl|refine aag A ?_|refine aan k1 ?_|refine aan k2 ?_|refine aan A ?_|refine aaY A ?_|refine And.intro ?_ ?_|refine ZE _ _ d ?_)
def Oi(q)(x)(c)(D)(N a)(V)(n b)(i)(hi:i=((q.nw+2:Nat):Int))(k1:N i=n)(Q):
  kr [oo] [(11001,39,ri q x c D a V i (D i.toNat 2) 0,oZ q x c D b V i)] 100 8001 36 (Gl q x c D N V) (λ_=>Bf q x c n V) (λj=>j+1) Q i:=by
 rw[Aj];have d:c_ (q.nw+2)=((q.nw+2:Nat):Int):=rfl;refine aaA O λ_=>?_
 repeat' (first|exact trivial|exact gW _ _|exact cM _ _|exact dJ _ _|exact bV|with_reducible rfl|refine aag A ?_|refine aan k1 ?_|refine aan A ?_|refine aaY A ?_|refine And.intro ?_ ?_)
def uP(q:Query)(x:ao)(k:Nat):Int:=eF q x (k/3) 2-1+((k%3:Nat):Int)
def OZ(q:Query)(x:ao)(k:Nat):List Int:=((b_ k).map (uP q x)).filter (OY q x)
def iZ(q:Query)(x:ao)(k:Nat):Nat:=(OZ q x k).length
def mf(q:Query)(x:ao):Nat:=iZ q x (3*(q.nw+2))
def iD(q:Query)(x:ao)(m:Nat):Int:=(OZ q x (3*(q.nw+2))).getD m 0
def D7(q)(x)(k n):OZ q x (k+n)=OZ q x k++((b_ n).map λj=>uP q x (k+j)).filter (OY q x):=by
 unfold OZ;rw[List.range_add,List.map_append,List.filter_append,List.map_map];rfl
def V8{q x k}(h:OY q x (uP q x k)=true):iZ q x (k+1)=iZ q x k+1:=by
 unfold iZ;rw[D7,o_];simp[h]
def Za{q x k}(h:OY q x (uP q x k)=false):iZ q x (k+1)=iZ q x k:=by
 unfold iZ;rw[D7,o_];simp[h]
def Td(q)(x)(k):iZ q x k<=k:=by
 unfold iZ OZ
 grind
def Zb{q x k}(b:k<3*(q.nw+2))(h:OY q x (uP q x k)=true):iD q x (iZ q x k)=uP q x k:=by
 unfold iD iZ;obtain⟨r,a⟩:∃r,3*(q.nw+2)=k+(r+1):=⟨3*(q.nw+2)-k-1,O⟩;rw[a,D7,List.range_succ_eq_map,List.map_cons,List.filter_cons,Nat.add_zero,h];simp
def Ar(q)(x)(i j)(a:j<3):uP q x (3*i+j)=eF q x i 2-1+(j:Int):=by
 unfold uP
 grind
def D8{q x}(a:fx q=true)(hx:bE x=true)(m)(b:m<q.nw+2): -1<=eF q x m 2/\eF q x m 2<=4398046511104:=by
 obtain⟨_,c⟩:=gM a;unfold bE at hx;simp only[ba,bl]at hx;unfold eF
 grind
def Oj(q)(x)(c)(i)(hi:i<q.nw+2)(g:ar 3 q.nw (av q.C)=true)(k:ar 1 q.ng (aN q.G)=true)(d:fx q=true)(hx:bE x=true):
  ay PP II false (az II 100 11001) 39 (ri q x c (eF q x) (λj=>iZ q x (3*i+j.toNat)) (iD q x) (i:Int) (eF q x i 2) 0) (oZ q x c (eF q x) (iZ q x (3*(i+1))) (iD q x) (i:Int)):=by
 have l:=(gM d).1;have key:=ay.of (ι:=Nat) fU [oo] (aX PP II []) 1000 (c:=az II 100 11001) (ir:=false) 39 (λj=>j<=3) (λj=>ri q x c (eF q x) (λj=>iZ q x (3*i+j.toNat)) (iD q x) (i:Int) (eF q x i 2) (j:Int)) (λ_=>oZ q x c (eF q x) (iZ q x (3*(i+1))) (iD q x) (i:Int)) (λj=>3-j) (λj=>j+1) 0 A (l_ _) λj b=>?_
 ·exact key
 have b:j<=3:=b;by_cases a:j<3
 ·have e:((j:Int)).toNat=j:=by omega
  have f:((j:Int)+1).toNat=j+1:=O;have m:=Td q x (3*i+j);refine Js q x c (eF q x) _ (iD q x) _ (i:Int) (eF q x i 2) (j:Int) j A a g k d hx ?_ (λh=>?_) (λh=>?_) ((j+1<=3)/\3-(j+1)<3-j/\(oZ q x c (eF q x) (iZ q x (3*(i+1))) (iD q x) (i:Int)).pick=(oZ q x c (eF q x) (iZ q x (3*(i+1))) (iD q x) (i:Int)).pick) Y
  grind
  ·rw[<-Ar q x i j a]at h⊢;show iZ q x (3*i+((j:Int)+1).toNat)=iZ q x (3*i+((j:Int)).toNat)+1/\iD q x (iZ q x (3*i+((j:Int)).toNat))=_;rw[e,f];exact⟨V8 h,Zb O h⟩
  ·rw[<-Ar q x i j a]at h;show iZ q x (3*i+((j:Int)+1).toNat)=iZ q x (3*i+((j:Int)).toNat);rw[e,f];exact Za h
 ·have b:j=3:=by omega
  subst b;exact Tc q x c (eF q x) _ (iD q x) _ (i:Int) (eF q x i 2) 3 A A _
def Jt(q)(x)(c)(d:ar 3 q.nw (av q.C)=true)(e:ar 1 q.ng (aN q.G)=true)(b:fx q=true)(hx:bE x=true):
  ay PP II false (az II 100 8001) 36 (Gl q x c (eF q x) (λi=>iZ q x (3*i.toNat)) (iD q x) 0) (Bf q x c (mf q x) (iD q x)):=by
 have f:=(gM b).1;have key:=ay.ofT (ι:=Nat) fU [oo] 1000 (λi=>[(11001,39,ri q x c (eF q x) (λj=>iZ q x (3*i+j.toNat)) (iD q x) (i:Int) (eF q x ((i:Int)).toNat 2) 0,oZ q x c (eF q x) (iZ q x (3*(i+1))) (iD q x) (i:Int))]) (c:=az II 100 8001) (ir:=false) 36 (λi=>i<=q.nw+2) (λi=>Gl q x c (eF q x) (λi=>iZ q x (3*i.toNat)) (iD q x) (i:Int)) (λ_=>Bf q x c (mf q x) (iD q x)) (λi=>q.nw+2-i) (λi=>i+1) 0 A (l_ _) λi hi=>?_
 ·exact key
 have hi:i<=q.nw+2:=hi;have g:((i:Int)).toNat=i:=O;have h:((i:Int)+1).toNat=i+1:=O;by_cases a:i<q.nw+2
 ·refine Gu q x c (eF q x) _ _ (iD q x) _ _ (i:Int) i A a f (D8 b hx i a) ?_ ?_ ?_ ((i+1<=q.nw+2)/\q.nw+2-(i+1)<q.nw+2-i/\(Bf q x c (mf q x) (iD q x)).pick=(Bf q x c (mf q x) (iD q x)).pick) Y
  ·rw[g];exact Oj q x c i a d e b hx
  all_goals rfl
 ·have hi:i=q.nw+2:=by omega
  subst hi;refine Oi q x c (eF q x) _ _ (iD q x) _ _ _ A ?_ _;rfl
def qf(q:Query)(x:ao):Int:=match gn q x with
 |false=>0
 |true=>if q.a=1 then 1 else if q.fl=7 then x.b else match nk q x with|true=>x.l|false=>k9 (iD q x) (mf q x)
def qg(q:Query)(x:ao):Int:=match gn q x with
 |false=>0
 |true=>if q.a=1 then 1 else if q.fl=7 then x.b else match nk q x with|true=>x.h|false=>dH (iD q x) (mf q x)
def G9(q:Query)(x:ao):Bool:=gn q x&&nk q x
def V9{q x k d}(h:d∈OZ q x k):OY q x d=true:=(List.mem_filter.1 h).2
def As{q x}(a:fx q=true)(b:gn q x=true):0<mf q x:=by
 obtain⟨d,c,f⟩:=V7 a b;have:d∈OZ q x (3*(q.nw+2)):=by
  refine List.mem_filter.2 ⟨?_,c⟩;have mk:∀i j:Nat,i<q.nw+2->j<3->d=eF q x i 2-1+(j:Int)->d∈(b_ (3*(q.nw+2))).map (uP q x):=λi j hi g e=>
   List.mem_map.2 ⟨3*i+j,List.mem_range.2 O,(Ar q x i j g).trans e.symm⟩
  rcases f with h|⟨k,hk,h|h⟩
  ·refine mk q.nw 1 O O ?_;unfold eF;rw[if_neg O,if_pos A,if_pos A,h];omega
  ·refine mk k 1 O O ?_;unfold eF;rw[if_pos hk,h];omega
  ·refine mk k 2 O O ?_;unfold eF;rw[if_pos hk,h];omega
 exact List.length_pos_iff.2 (n_ this)
def Te(q)(x):an (q.nw+2) (λi=>bif M i q.nw then av (aF (av q.C)) i else h_ 3 (f_ (0+(i-q.nw)*3) [.int a_ 0,.int a_ 0,.int a_ x.l,.int a_ 0,.int a_ 0,.int a_ x.h])) (av (eF q x)):=λi hi σ=>by
 show bj.le σ (bif M i q.nw then av (aF (av q.C)) i else h_ 3 (f_ (0+(i-q.nw)*3) [.int a_ 0,.int a_ 0,.int a_ x.l,.int a_ 0,.int a_ 0,.int a_ x.h])) (av (eF q x) i);by_cases h:i<q.nw
 ·rw[gj h];refine⟨⟨rfl,?_⟩,⟨rfl,?_⟩,⟨rfl,?_⟩,trivial⟩<;>(unfold eF;rw[if_pos h];rfl)
 ·rw[lR h];by_cases e:i=q.nw
  ·subst e;rw[show 0+(q.nw-q.nw)*3=0 by omega];refine⟨⟨rfl,?_⟩,⟨rfl,?_⟩,⟨rfl,?_⟩,trivial⟩<;>(unfold eF;simp)
  ·have:i=q.nw+1:=by omega
   subst this;rw[show 0+(q.nw+1-q.nw)*3=3 by omega];refine⟨⟨rfl,?_⟩,⟨rfl,?_⟩,⟨rfl,?_⟩,trivial⟩<;>(unfold eF;rw[if_neg h];simp)
def Ju{q x}(c:gn q x=true)(a:nk q x=false):0<q.nw:=by
 refine Nat.pos_of_ne_zero λe=>?_
 have b:cY q x=⟨true,x.l,x.h,0,λ_=>0⟩:=by unfold cY;rw[e];rfl
 unfold nk ky fL sR at a;rw[b]at a;simp at a
def Tf{q x}(e:ar 3 q.nw (av q.C)=true)(f:ar 1 q.ng (aN q.G)=true)(d:fx q=true)(hx:bE x=true):
  af PP II 100 [.agg (aZ q),.agg (aB x)] HO (.ret (.bM [.agg [.int a_ (qf q x),.int a_ (qg q x),.bool (G9 q x)],.bool (gn q x)]) HO):=by
 have m:=(gM d).1;refine FW (ks:=[aaB,oo,K7,WX,Ru]) (T:=[(8001,36,Gl q x (nk q x) (eF q x) (λi=>iZ q x (3*i.toNat)) (iD q x) 0,Bf q x (nk q x) (mf q x) (iD q x))]) (λσ=>⟨⟨⟨rfl,rfl⟩,⟨rfl,rfl⟩,rfl,trivial⟩,rfl,trivial⟩) ?_;rw[SU _ _ _ _ _ _ _ _ A A A,e,f,show fx _=true from(lc q).trans d,hx,show gn ⟨q.nw,aF (av q.C),q.ng,λj=>q.G j,q.a,q.fl,q.nu,q.de,q.top⟩ x=gn q x from Og q x,show nk ⟨q.nw,aF (av q.C),q.ng,λj=>q.G j,q.a,q.fl,q.nu,q.de,q.top⟩ x=nk q x from Oh q x];refine ZE _ _ A (ZE _ _ A (ZE _ _ A ?_));have g:=Te q x;unfold qf qg G9;cases hp:gn q x with
 |false=>exact⟨rfl,rfl⟩
 |true=>
  have k:=As d hp;have o:mf q x<=3*(q.nw+2):=Td q x _;cases l:nk q x with
  |true=>
   show ak (z (q.a=1)) _ (ak (z (q.fl=7)) _ _);refine aaA (λh=>?_) λh=>aaA (λc=>?_) λc=>?_
   ·rw[if_pos h,if_pos h];exact⟨rfl,rfl⟩
   ·rw[if_neg h,if_pos c,if_neg h,if_pos c];exact⟨rfl,rfl⟩
   ·rw[if_neg h,if_neg c,if_neg h,if_neg c];exact⟨rfl,rfl⟩
  |false=>
   have lp:=Jt q x false e f d hx;have nw:=Ju hp l;have a1:((i_ (List.range.loop (mf q x) []) λi=>true)&&z (mf q x<=mf q x))=true:=by rw[Gt λ_=>rfl,bK (dP _)];rfl
   have a2:((i_ (List.range.loop (mf q x) []) λi=>true)&&t_ (mf q x) 1000000000000&&M 0 (mf q x))=true:=by rw[Gt λ_=>rfl,il O,gj k];rfl
   refine ZE _ _ (by rw[gj nw,il (O:q.nw<=1000)];rfl) (ZE _ _ (bK A) (ZE _ _ (bK A) (ZE _ _ (by rw[bK (dP _),bK (O:(q.nw+2)*24<=140737488355328)];rfl) ⟨lp,?_⟩)));have b:iZ q x (3*(0:Int).toNat)=0:=rfl;generalize mf q x=n at*;generalize iD q x=V at*;refine aan b (aan A ⟨g,rfl,?_⟩);refine aag A (aag A (aag A (aag A (aag A (aag A (aag A (aag A (aag A (aag A (aan A ⟨cM _ _,aan A ⟨dJ _ _,aag A (aag A (aaY A (aaY A (aag A ⟨bV,aan b (aag A (aan A ⟨rfl,?_⟩))⟩))))⟩⟩))))))))));refine ZE _ _ a1 (ZE _ _ a2 (ZE _ _ a1 (ZE _ _ a2 ?_)));refine aaA (λh=>?_) λh=>aaA (λc=>?_) λc=>?_
   ·rw[if_pos h,if_pos h];exact⟨rfl,rfl⟩
   ·rw[if_neg h,if_pos c,if_neg h,if_pos c];exact⟨rfl,rfl⟩
   ·rw[if_neg h,if_neg c,if_neg h,if_neg c];exact⟨rfl,rfl⟩
def sE(q:Query)(cs:List AV):Bool:=match cs with
 |[.ae nw 3 f,.ae ng 1 g,.int a_ a,.int a_ fl,.str nu,.str de,.int a_ top]=>d_ nw q.nw&&d_ ng q.ng&&((b_ nw).all λj=>match f j with|[.int a_ x,.int a_ y,.int a_ b]=>z (x=q.C j 0)&&z (y=q.C j 1)&&z (b=q.C j 2)|_=>false)&&((b_ ng).all λj=>match g j with|[.int a_ x]=>z (x=q.G j)|_=>false)&&z (a=q.a)&&z (fl=q.fl)&&z (nu=q.nu)&&z (de=q.de)&&z (top=q.top)
 |_=>false
def ot{q:Query}{cs:List AV}(h:sE q cs=true):AV.le (λl=>l) (.agg cs) (.agg (aZ q))/\∀σ,B_ σ (.agg cs)= .agg cs:=by
 unfold sE at h;split at h
 ·simp only[ba,bl,p_,List.mem_range]at h;obtain⟨⟨⟨⟨⟨⟨⟨⟨b,c⟩,h3⟩,h4⟩,d⟩,f⟩,g⟩,j⟩,k⟩:=h;have b:=dV b;have c:=dV c;refine⟨⟨⟨b,rfl,λi hi=>?_⟩,⟨c,rfl,λi hi=>?_⟩,⟨rfl,d⟩,⟨rfl,f⟩,g,j,⟨rfl,k⟩,trivial⟩,λ_=>rfl⟩
  ·have:=h3 i hi;split at this
   ·rename_i x y a e;simp only[ba,bl]at this;rw[e];exact⟨⟨rfl,this.1.1⟩,⟨rfl,this.1.2⟩,⟨rfl,this.2⟩,trivial⟩
   ·cases this
  ·have:=h4 i hi;split at this
   ·rename_i x e;rw[e];exact⟨⟨rfl,py this⟩,trivial⟩
   ·cases this
 ·cases h
def pq(q):sE q [.ae q.nw 3 (av q.C),.ae q.ng 1 (aN q.G),.int a_ q.a,.int a_ q.fl,.str q.nu,.str q.de,.int a_ q.top]=true:=by
 unfold sE;have c:((b_ q.nw).all λj=>match av q.C j with|[.int a_ x,.int a_ y,.int a_ b]=>z (x=q.C j 0)&&z (y=q.C j 1)&&z (b=q.C j 2)|_=>false)=true:=List.all_eq_true.2 λj _=>by simp[av]
 have d:((b_ q.ng).all λj=>match aN q.G j with|[.int a_ x]=>z (x=q.G j)|_=>false)=true:=List.all_eq_true.2 λj _=>by simp[aN]
 simp_all
def dl(q:Query):Bool:=ar 3 q.nw (av q.C)&&ar 1 q.ng (aN q.G)&&fx q
def iQ{q}(h:dl q=true):ar 3 q.nw (av q.C)=true/\ar 1 q.ng (aN q.G)=true/\fx q=true:=by
 unfold dl at h
 grind
def kW(q:Query):ax PP II:=ax.I5 100
 (λX args b=>match args with
  |[.agg cs,.agg ds]=>match jJ ds with
   |some x=>X.ag (sE q cs&&dl q&&bE x) (b (.bM [.agg [.int a_ (qf q x),.int a_ (qg q x),.bool (G9 q x)],.bool (gn q x)]))
   |_=>X.fail
  |_=>X.fail)
 λX sem hX args b h=>by
  split at h
  ·split at h
   ·rename_i x hx;obtain⟨a,c⟩:=hX.ag _ _ h;simp only[ba]at a;cases gI hx;obtain⟨r1,d,e⟩:=iQ a.1.2;obtain⟨l1,l2⟩:=ot a.1.1;refine⟨_,c,λ_=>rfl,λσ=>?_,af.iM (Tf r1 d e a.2) l1 (DQ x)⟩;show [B_ σ (.agg _),_]=_;rw[l2];rfl
   ·exact zR
  ·exact zR
def sU(q:Query)(g:Nat):ax PP II:=ax.I5 101
 (λX args b=>match args with
  |[.agg cs,.agg ds]=>match jJ ds with
   |some x=>X.ag (sE q cs&&dl q&&bE x&&d_ q.ng g) (b (.bM [.ae g 1 (ah (bf q x)),.int a_ 0]))
   |_=>X.fail
  |_=>X.fail)
 λX sem hX args b h=>by
  split at h
  ·split at h
   ·rename_i x hx;obtain⟨a,c⟩:=hX.ag _ _ h;simp only[ba]at a;cases gI hx;obtain⟨r1,d,e⟩:=iQ a.1.1.2;obtain⟨l1,l2⟩:=ot a.1.1.1;cases dV a.2;refine⟨_,c,λ_=>rfl,λσ=>?_,af.iM (Y0 r1 d e a.1.2) l1 (DQ x)⟩;show [B_ σ (.agg _),_]=_;rw[l2];rfl
   ·exact zR
  ·exact zR
def tG(k:Nat)(F:Nat->ao)(out:AV)(i:Int):Tr AV:=Tr.ofList [(2,.ptr 14 0 0 0),(5,.map (m_ 15)),(6,out),(15,cZ k F),(16,.int a_ (c_ k)),(17,.int a_ i)]
def hG(q:Query)(n:Nat)(a:List (Nat×aae)):AH:=hQ n ([(14,.cells (aZ q) (.ty 34))]++a)
def fQ(b:Nat->Nat)(i:Nat):List AV:=[.addr (b i) 0]
abbrev kg(ks:List (ax PP II))(f key n0:Nat)(s b:St)(P:St->Prop):Prop :=
 w7 ks (mO PP II []) 1000 false (.code (az II f key)) s {n:=λa=>oH n0 a b (P a),x:=λ_ _=>False,g:=λ_ _=>False,r:=λ_=>False,p:=λ_ _=>False}
def Gv(n:Nat)(s:St):Prop:=match cR s.t 6 with
 | .own L _ _=>match s.H.get L with
  | .rows _ _ f _=>match s.H.get 15 with
   | .dK _ _ _ (m_ (_,.ptr g k e j))=>f n=[.ptr g k e j]
   |_=>False
  |_=>False
 |_=>False
def wR(q:Query)(k:Nat)(F:Nat->ao)(a b c:Nat)(out:AV)(i:Int):Bool->St
 |false=>{t:=tG k F out i,nt:=86,H:=hG q 17 [],df:=[]}
 |true=>{t:=tG k F out (i+1),nt:=86,H:=hG q 17 [],df:=[]}
def Wa(q:Query)(k n:Nat)(F:Nat->ao)(K:Nat->List Int)(b:Nat->Nat)(ks:List Int)(g:Nat)(W:Nat->Int)(lo hi:Int)(c:Bool)(i:Int):Bool->St
 |false=>{t:=tG k F (.own 16 n 1) i,nt:=86,H:=hG q 17 [(15,.dK n K (λj=> .addr (b j) 0) u_),(16,.rows n 1 (fQ b) (.ty 132))],df:=[]}
 |true=>{t:=tG k F (.own 20 (n+1) 1) (i+1),nt:=86,H:=hG q 21 [(15,.dK (n+1) (dC n K ks) (λj=>bif d_ j n then .any else .addr (b j) 0) (m_ (n,.ptr 17 0 0 0))),(17,.cells [.ae g 1 (ah W),.own 18 1 3,.own 19 1 1] (.ty 137)),(18,.rows 1 3 (λ_=>[.int a_ lo,.int a_ hi,.bool c]) (.ty 185)),(19,.rows 1 1 (λ_=>[.int a_ i]) (.ty 3)),(20,.rows (n+1) 1 (λj=>bif d_ j n then [.any]else fQ b j) (.ty 132))],df:=[]}
def Jv(q:Query)(k n:Nat)(F:Nat->ao)(K:Nat->List Int)(b:Nat->Nat)(j g:Nat)(W:Nat->Int)(m:Nat)(S T:Nat->List AV)(a c:Nat->List AV)(i:Int):Bool->St
 |false=>{t:=tG k F (.own 16 n 1) i,nt:=86,H:=hG q 20 [(15,.dK n K (λj=> .addr (b j) 0) (m_ (j,.ptr 17 0 0 0))),(16,.rows n 1 (fQ b) (.ty 132)),(17,.cells [.ae g 1 (ah W),.own 18 m 3,.own 19 m 1] (.ty 137)),(18,.rows m 3 S (.ty 185)),(19,.rows m 1 T (.ty 3))],df:=[]}
 |true=>{t:=tG k F (.own 16 n 1) (i+1),nt:=86,H:=hG q 22 [(15,.dK n K (λj=> .addr (b j) 0) (m_ (j,.ptr 17 0 0 0))),(16,.rows n 1 (fQ b) (.ty 132)),(17,.cells [.ae g 1 (ah W),.own 20 (m+1) 3,.own 21 (m+1) 1] (.ty 137)),(20,.rows (m+1) 3 a (.ty 185)),(21,.rows (m+1) 1 c (.ty 3))],df:=[]}
def Tg(q)(k)(F)(a b c)(i)(l n:Nat)(Q){d}(e:d=[r_ q.nw 3 (av q.C),r_ q.ng 1 (aN q.G),e_ a_ q.a,e_ a_ q.fl,k_ q.nu,k_ q.de,e_ a_ q.top]):(kg [kW q,sU q 0] 63 4001 17 (wR q k F a b c (.own 16 n 1) i false) (wR q k F a b c (.own 16 n 1) i true) (λ_=>Q))=(ak (z (i<c_ k)) (B (z (0<=i)&&z (i<c_ k)) (B (sE q d&&dl q&&bE (F i.toNat)) (ak (!gn q (F i.toNat)) (B (aJ a_ (i+1)) (zyN q.nw (zyR q.nw (av q.C) (zyN q.ng (zyR q.ng (aN q.G) (zyI q.a (zyI q.fl (zyB q.nu (zyB q.de (zyI q.top (zyB [48] (zyB [49] (zyR 5 aC (zyN k ((an k (λi=>aB (F i)) λi=>aB (F i))/\zyI (i+1) (zyI (c_ k) (zyN n Q))))))))))))))))) (B (sE q d&&dl q&&bE (F i.toNat)&&d_ q.ng 0) False)))) False):=by subst_vars;kernel_rfl
def Wb(q)(k n)(F)(K)(b)(i){d}(g:d=[r_ q.nw 3 (av q.C),r_ q.ng 1 (aN q.G),e_ a_ q.a,e_ a_ q.fl,k_ q.nu,k_ q.de,e_ a_ q.top]):(kg [kW q,sU q q.ng] 63 4001 17 (Wa q k n F K b [bif M 0 q.ng then bf q (F i.toNat) 0 else 0,bif M 1 q.ng then bf q (F i.toNat) 1 else 0,bif M 2 q.ng then bf q (F i.toNat) 2 else 0] q.ng (bf q (F i.toNat)) (qf q (F i.toNat)) (qg q (F i.toNat)) (G9 q (F i.toNat)) i false) (Wa q k n F K b [bif M 0 q.ng then bf q (F i.toNat) 0 else 0,bif M 1 q.ng then bf q (F i.toNat) 1 else 0,bif M 2 q.ng then bf q (F i.toNat) 2 else 0] q.ng (bf q (F i.toNat)) (qf q (F i.toNat)) (qg q (F i.toNat)) (G9 q (F i.toNat)) i true) (Gv n))=(ak (z (i<c_ k)) (B (z (0<=i)&&z (i<c_ k)) (B (sE q d&&dl q&&bE (F i.toNat)) (ak (!gn q (F i.toNat)) (B (aJ a_ (i+1)) (bh n (n+1) ((an n (fQ b) λj=>bif d_ j n then [y_]else fQ b j)/\bh 1 0 (bh 1 0 False)))) (B (sE q d&&dl q&&bE (F i.toNat)&&d_ q.ng q.ng) (B (t_ q.ng 3&&i_ (b_ q.ng) λi=>true) (B (gz n K 3&&Uc n K [bif M 0 q.ng then bf q (F i.toNat) 0 else 0,bif M 1 q.ng then bf q (F i.toNat) 1 else 0,bif M 2 q.ng then bf q (F i.toNat) 2 else 0]) (B (gz n K 3&&Uc n K [bif M 0 q.ng then bf q (F i.toNat) 0 else 0,bif M 1 q.ng then bf q (F i.toNat) 1 else 0,bif M 2 q.ng then bf q (F i.toNat) 2 else 0]) (B (gz (n+1) (dC n K [bif M 0 q.ng then bf q (F i.toNat) 0 else 0,bif M 1 q.ng then bf q (F i.toNat) 1 else 0,bif M 2 q.ng then bf q (F i.toNat) 2 else 0]) 3&&AU (n+1) (dC n K [bif M 0 q.ng then bf q (F i.toNat) 0 else 0,bif M 1 q.ng then bf q (F i.toNat) 1 else 0,bif M 2 q.ng then bf q (F i.toNat) 2 else 0]) [bif M 0 q.ng then bf q (F i.toNat) 0 else 0,bif M 1 q.ng then bf q (F i.toNat) 1 else 0,bif M 2 q.ng then bf q (F i.toNat) 2 else 0] n) (B (z (n<=n)&&true&&true&&z ((n+1)*8<=140737488355328)&&true) (B (gz (n+1) (dC n K [bif M 0 q.ng then bf q (F i.toNat) 0 else 0,bif M 1 q.ng then bf q (F i.toNat) 1 else 0,bif M 2 q.ng then bf q (F i.toNat) 2 else 0]) 3&&AU (n+1) (dC n K [bif M 0 q.ng then bf q (F i.toNat) 0 else 0,bif M 1 q.ng then bf q (F i.toNat) 1 else 0,bif M 2 q.ng then bf q (F i.toNat) 2 else 0]) [bif M 0 q.ng then bf q (F i.toNat) 0 else 0,bif M 1 q.ng then bf q (F i.toNat) 1 else 0,bif M 2 q.ng then bf q (F i.toNat) 2 else 0] n) (B (gz (n+1) (dC n K [bif M 0 q.ng then bf q (F i.toNat) 0 else 0,bif M 1 q.ng then bf q (F i.toNat) 1 else 0,bif M 2 q.ng then bf q (F i.toNat) 2 else 0]) 3&&AU (n+1) (dC n K [bif M 0 q.ng then bf q (F i.toNat) 0 else 0,bif M 1 q.ng then bf q (F i.toNat) 1 else 0,bif M 2 q.ng then bf q (F i.toNat) 2 else 0]) [bif M 0 q.ng then bf q (F i.toNat) 0 else 0,bif M 1 q.ng then bf q (F i.toNat) 1 else 0,bif M 2 q.ng then bf q (F i.toNat) 2 else 0] n) (B (gz (n+1) (dC n K [bif M 0 q.ng then bf q (F i.toNat) 0 else 0,bif M 1 q.ng then bf q (F i.toNat) 1 else 0,bif M 2 q.ng then bf q (F i.toNat) 2 else 0]) 3&&AU (n+1) (dC n K [bif M 0 q.ng then bf q (F i.toNat) 0 else 0,bif M 1 q.ng then bf q (F i.toNat) 1 else 0,bif M 2 q.ng then bf q (F i.toNat) 2 else 0]) [bif M 0 q.ng then bf q (F i.toNat) 0 else 0,bif M 1 q.ng then bf q (F i.toNat) 1 else 0,bif M 2 q.ng then bf q (F i.toNat) 2 else 0] n) (B (z ((bif M 0 q.ng then bf q (F i.toNat) 0 else 0)=bif M 0 q.ng then bf q (F i.toNat) 0 else 0)&&(z ((bif M 1 q.ng then bf q (F i.toNat) 1 else 0)=bif M 1 q.ng then bf q (F i.toNat) 1 else 0)&&(z ((bif M 2 q.ng then bf q (F i.toNat) 2 else 0)=bif M 2 q.ng then bf q (F i.toNat) 2 else 0)&&true))) (B (gz (n+1) (dC n K [bif M 0 q.ng then bf q (F i.toNat) 0 else 0,bif M 1 q.ng then bf q (F i.toNat) 1 else 0,bif M 2 q.ng then bf q (F i.toNat) 2 else 0]) 3&&AU (n+1) (dC n K [bif M 0 q.ng then bf q (F i.toNat) 0 else 0,bif M 1 q.ng then bf q (F i.toNat) 1 else 0,bif M 2 q.ng then bf q (F i.toNat) 2 else 0]) [bif M 0 q.ng then bf q (F i.toNat) 0 else 0,bif M 1 q.ng then bf q (F i.toNat) 1 else 0,bif M 2 q.ng then bf q (F i.toNat) 2 else 0] n) (B (gz (n+1) (dC n K [bif M 0 q.ng then bf q (F i.toNat) 0 else 0,bif M 1 q.ng then bf q (F i.toNat) 1 else 0,bif M 2 q.ng then bf q (F i.toNat) 2 else 0]) 3&&AU (n+1) (dC n K [bif M 0 q.ng then bf q (F i.toNat) 0 else 0,bif M 1 q.ng then bf q (F i.toNat) 1 else 0,bif M 2 q.ng then bf q (F i.toNat) 2 else 0]) [bif M 0 q.ng then bf q (F i.toNat) 0 else 0,bif M 1 q.ng then bf q (F i.toNat) 1 else 0,bif M 2 q.ng then bf q (F i.toNat) 2 else 0] n) (B (gz (n+1) (dC n K [bif M 0 q.ng then bf q (F i.toNat) 0 else 0,bif M 1 q.ng then bf q (F i.toNat) 1 else 0,bif M 2 q.ng then bf q (F i.toNat) 2 else 0]) 3&&AU (n+1) (dC n K [bif M 0 q.ng then bf q (F i.toNat) 0 else 0,bif M 1 q.ng then bf q (F i.toNat) 1 else 0,bif M 2 q.ng then bf q (F i.toNat) 2 else 0]) [bif M 0 q.ng then bf q (F i.toNat) 0 else 0,bif M 1 q.ng then bf q (F i.toNat) 1 else 0,bif M 2 q.ng then bf q (F i.toNat) 2 else 0] n) (B (z ((bif M 0 q.ng then bf q (F i.toNat) 0 else 0)=bif M 0 q.ng then bf q (F i.toNat) 0 else 0)&&(z ((bif M 1 q.ng then bf q (F i.toNat) 1 else 0)=bif M 1 q.ng then bf q (F i.toNat) 1 else 0)&&(z ((bif M 2 q.ng then bf q (F i.toNat) 2 else 0)=bif M 2 q.ng then bf q (F i.toNat) 2 else 0)&&true))) (B (aJ a_ (i+1)) (zyN (n+1) ((an (n+1) (λi=>bif M i n then fQ b i else h_ 1 (f_ (0+(i-n)*1) [s_ 20 0 0 0])) λj=>bif d_ j n then [y_]else fQ b j)/\(an 1 (bY [e_ a_ i] 1) λx=>[e_ a_ i])/\(an 1 (bY [e_ a_ (qf q (F i.toNat)),e_ a_ (qg q (F i.toNat)),w_ (G9 q (F i.toNat))] 3) λx=>[e_ a_ (qf q (F i.toNat)),e_ a_ (qg q (F i.toNat)),w_ (G9 q (F i.toNat))])/\zyN q.ng (zyR q.ng (ah (bf q (F i.toNat))) (zyN (n+1) ((∀(c),c<n+1->dC n K [bif M 0 q.ng then bf q (F i.toNat) 0 else 0,bif M 1 q.ng then bf q (F i.toNat) 1 else 0,bif M 2 q.ng then bf q (F i.toNat) 2 else 0] c=dC n K [bif M 0 q.ng then bf q (F i.toNat) 0 else 0,bif M 1 q.ng then bf q (F i.toNat) 1 else 0,bif M 2 q.ng then bf q (F i.toNat) 2 else 0] c/\∀(σ),AV.le σ (vf n (λj=>C_ (b j) 0) (s_ 20 0 0 0) c) (bif d_ c n then y_ else C_ (b c) 0))/\zyN n (zyN q.nw (zyR q.nw (av q.C) (zyN q.ng (zyR q.ng (aN q.G) (zyI q.a (zyI q.fl (zyB q.nu (zyB q.de (zyI q.top (zyB [48] (zyB [49] (zyR 5 aC (zyN k ((an k (λi=>aB (F i)) λi=>aB (F i))/\zyI (i+1) (zyI (c_ k) (zyN (n+1) ((bif M n n then fQ b n else Nat.rec (motive:=λx=>z_ (motive:=λx=>List AV->List AV) x->List AV) (λx=>[]) (λe f=>List.casesOn (motive:=λx=>z_ (motive:=λx=>List AV->List AV) (e+1)->List AV) (f_ (0+(n-n)*1) [s_ 20 0 0 0]) (λx=>[]) λhead tail x=>head::x.1 tail) 1 ⟨λx=>[],PUnit.unit⟩)=[s_ 20 0 0 0])))))))))))))))))))))))))))))))))))))))) False):=by subst_vars;kernel_rfl
def Wc(q)(k n)(F)(K)(b)(j m)(W)(S T f g)(i)(Q){d}(h:d=(zyN n (zyR n (fQ b) (zyN n ((∀(i),i<n->K i=K i/\∀(σ:Nat->Nat),b i=b i/\0=0)/\zyN j (zyN q.nw (zyR q.nw (av q.C) (zyN q.ng (zyR q.ng (aN q.G) (zyI q.a (zyI q.fl (zyB q.nu (zyB q.de (zyI q.top (zyB [48] (zyB [49] (zyR 5 aC (zyN k ((an k (λi=>aB (F i)) λi=>aB (F i))/\zyI (i+1) (zyI (c_ k) (zyN n Q))))))))))))))))))))){e}(l:e=[r_ q.nw 3 (av q.C),r_ q.ng 1 (aN q.G),e_ a_ q.a,e_ a_ q.fl,k_ q.nu,k_ q.de,e_ a_ q.top]):(kg [kW q,sU q q.ng] 63 4001 20 (Jv q k n F K b j q.ng W m S T f g i false) (Jv q k n F K b j q.ng W m S T f g i true) (λ_=>Q))=(ak (z (i<c_ k)) (B (z (0<=i)&&z (i<c_ k)) (B (sE q e&&dl q&&bE (F i.toNat)) (ak (!gn q (F i.toNat)) (B (aJ a_ (i+1)) (bh m (m+1) (an m T g/\bh m (m+1) (an m S f/\zyN q.ng (zyR q.ng (ah W) (bh m (m+1) (bh m (m+1) d))))))) (B (sE q e&&dl q&&bE (F i.toNat)&&d_ q.ng q.ng) (B (t_ q.ng 3&&i_ (b_ q.ng) λi=>true) (B (gz n K 3&&AU n K [bif M 0 q.ng then bf q (F i.toNat) 0 else 0,bif M 1 q.ng then bf q (F i.toNat) 1 else 0,bif M 2 q.ng then bf q (F i.toNat) 2 else 0] j) (B (gz n K 3&&AU n K [bif M 0 q.ng then bf q (F i.toNat) 0 else 0,bif M 1 q.ng then bf q (F i.toNat) 1 else 0,bif M 2 q.ng then bf q (F i.toNat) 2 else 0] j) (B (gz n K 3&&AU n K [bif M 0 q.ng then bf q (F i.toNat) 0 else 0,bif M 1 q.ng then bf q (F i.toNat) 1 else 0,bif M 2 q.ng then bf q (F i.toNat) 2 else 0] j) (B (z (m<=m)&&true&&true&&z ((m+1)*24<=140737488355328)&&true) (B (gz n K 3&&AU n K [bif M 0 q.ng then bf q (F i.toNat) 0 else 0,bif M 1 q.ng then bf q (F i.toNat) 1 else 0,bif M 2 q.ng then bf q (F i.toNat) 2 else 0] j) (B (z ((bif M 0 q.ng then bf q (F i.toNat) 0 else 0)=bif M 0 q.ng then bf q (F i.toNat) 0 else 0)&&(z ((bif M 1 q.ng then bf q (F i.toNat) 1 else 0)=bif M 1 q.ng then bf q (F i.toNat) 1 else 0)&&(z ((bif M 2 q.ng then bf q (F i.toNat) 2 else 0)=bif M 2 q.ng then bf q (F i.toNat) 2 else 0)&&true))) (B (gz n K 3&&AU n K [bif M 0 q.ng then bf q (F i.toNat) 0 else 0,bif M 1 q.ng then bf q (F i.toNat) 1 else 0,bif M 2 q.ng then bf q (F i.toNat) 2 else 0] j) (B (gz n K 3&&AU n K [bif M 0 q.ng then bf q (F i.toNat) 0 else 0,bif M 1 q.ng then bf q (F i.toNat) 1 else 0,bif M 2 q.ng then bf q (F i.toNat) 2 else 0] j) (B (z (m<=m)&&true&&true&&z ((m+1)*8<=140737488355328)&&true) (B (gz n K 3&&AU n K [bif M 0 q.ng then bf q (F i.toNat) 0 else 0,bif M 1 q.ng then bf q (F i.toNat) 1 else 0,bif M 2 q.ng then bf q (F i.toNat) 2 else 0] j) (B (z ((bif M 0 q.ng then bf q (F i.toNat) 0 else 0)=bif M 0 q.ng then bf q (F i.toNat) 0 else 0)&&(z ((bif M 1 q.ng then bf q (F i.toNat) 1 else 0)=bif M 1 q.ng then bf q (F i.toNat) 1 else 0)&&(z ((bif M 2 q.ng then bf q (F i.toNat) 2 else 0)=bif M 2 q.ng then bf q (F i.toNat) 2 else 0)&&true))) (B (aJ a_ (i+1)) (zyN (m+1) (an (m+1) (λc=>bif M c m then T c else h_ 1 (f_ (0+(c-m)*1) [e_ a_ i])) g/\zyN (m+1) (an (m+1) (λc=>bif M c m then S c else h_ 3 (f_ (0+(c-m)*3) [e_ a_ (qf q (F i.toNat)),e_ a_ (qg q (F i.toNat)),w_ (G9 q (F i.toNat))])) f/\zyN q.ng (zyR q.ng (ah W) (zyN (m+1) (zyN (m+1) d))))))))))))))))))))))) False):=by subst_vars;kernel_rfl
def AH.Gw(N:Nat)(f:Nat->aae):AH:={n:=N,t:=(b_ N).foldl (λt i=>t.set i (f i)) .e}
def Co(f:Nat->aae)(l):∀N,((b_ N).foldl (λt i=>t.set i (f i)) (.e:Tr aae)).get l=if l<N then m_ (f l)else u_
 |0=>rfl
 |N+1=>by
  rw[List.range_succ,List.foldl_append];show(Tr.set _ N (f N)).get l=_;rw[Tr.bk,Co f l N]
  grind
def AH.vS(N)(f)(l):(AH.Gw N f).get l=if l<N then f l else .dead:=by
 unfold AH.Gw AH.get;simp only[Co]
 grind
def vT{ks f key n0 s y Q}(h:kg ks f key n0 s y Q){SB σ}(ht:∀i,cR SB.t i=(cR s.t i).bx σ)(o:SB.nt=s.nt)(j:s.df=[]/\SB.df=[])
  (ro) (n) (c) (ρ) (a) (w) (q:ro=u_) (hG:c.G=II.G) (E:Sub c.G σ s.H SB.H) (m:cL c ρ SB a w):
  (az II f key).wpIn (WF ro) n PP (λx a1 C=>x= .normal/\∃d k,St.Le n0 d y/\Q d/\cL (c.jt ρ s.H SB.H σ w) k d a1 C) a w:=by
 obtain⟨e,l,F⟩:=pN fU ks (aX PP II []) 1000 false _ _ _ h;have u:cL (c.jt ρ s.H SB.H σ w) (ρ.gX σ) s a w:=by
  refine⟨⟨m.tmp.1.trans o,λi=>?_⟩,m.heap.jt E,?_⟩
  ·have:=m.tmp.2 i;rw[ht]at this;exact VR.iI _ _ this
  ·have:=m.df;rw[j.2]at this;rw[j.1];exact this
 have h3:(az II f key).wpIn (WF ro) n PP (e.post (c.jt ρ s.H SB.H σ w) (ρ.gX σ)) a w:=F ro n (c.jt ρ s.H SB.H σ w) (ρ.gX σ) a w (λ_=>q) hG u;refine wpIn_mono h3 λx a1 C D=>?_
 cases e with
 |n d=>
  cases x with
  |normal=>
   obtain⟨k,_,I⟩:=D;obtain⟨k1,k2⟩:=oH.ok (K:=Q d) l
   grind
  |_=>exact D.elim
 |x b d=>exact(l:False).elim
 |g b d=>exact(l:False).elim
 |r d=>exact(l:False).elim
 |p v d=>exact(l:False).elim
def sk{c ρ SB a w}{s:St}{σ}(m:cL c ρ SB a w)(o:Sub c.G σ s.H SB.H){d b a1 k}(g:cL (c.jt ρ s.H SB.H σ w) b d a1 k){SB'}(t:EE σ s.H d.H SB.H SB'.H)(ht:∀i,cR SB'.t i=(cR d.t i).bx σ)(h:SB'.nt=d.nt)(f:d.df=[]/\SB'.df=[]):
  ∃ρ',Ext ρ ρ'/\(∀l,ρ' (σ l)=b l)/\cL c ρ' SB' a1 k:=by
 obtain⟨hx,p,j⟩:=m.heap.PN o g.heap t;refine⟨_,hx,p,⟨g.tmp.1.trans h.symm,λi=>?_⟩,j,?_⟩
 ·rw[ht];exact VR.bx (show w6 σ b (ρ.back b s.H.n SB.H.n)from⟨by simp_all,λ_ _ e=>e⟩) _ _ (g.tmp.2 i)
 ·have:=g.df;rw[f.1]at this;rw[f.2];exact this
def qB(i:Nat):List AV:=[.ptr (17+3*i) 0 0 0]
def rl{ρ l v}:VR ρ (.ptr l 0 0 0) v↔ ∃b N,ρ l=m_ (b,N)/\v= .pointer (m_ ⟨b,0,u_⟩):=by
 rfl
def Gx{c:fE}{ρ:Env}{w:World}{H:AH}{n:Nat}{K:Nat->List Int}(x:Rel c ρ H w)(k:H.get 15= .dK n K (λj=> .ptr (17+3*j) 0 0 0) u_)(q:H.get 16= .rows n 1 qB (.ty 132)):
  ∃b:Nat->Nat,(∀j,j<n->∃N,ρ (17+3*j)=m_ (b j,N))/\∀d:Option (Nat×AV),(∀j a,d=m_ (j,a)->j<n/\a= .ptr (17+3*j) 0 0 0)->
   Rel c ρ ((H.set 15 (.dK n K (λj=> .addr (b j) 0) d)).set 16 (.rows n 1 (fQ b) (.ty 132))) w:=by
 have r:=x.eB 15;rw[k]at r;obtain⟨O,P,u,Q,R,C,_⟩:=r;have ex:∀j,∃b,j<n->∃N,ρ (17+3*j)=m_ (b,N):=λj=>by
  by_cases t:j<n
  ·obtain⟨b,N,m,_⟩:=rl.1 (C j t);simp_all
  ·exact⟨0,λh=>absurd h t⟩
 obtain⟨b,y⟩:=A_ ex;have conv:∀j,j<n->∀v,VR ρ (.ptr (17+3*j) 0 0 0) v->VR ρ (.addr (b j) 0) v:=λj t v D=>by obtain⟨S,T,m,rfl⟩:=rl.1 D;obtain⟨N,o⟩:=y j t;rw[m]at o;cases o;simp only[VR]
 refine⟨b,y,λd U=>?_⟩;have g:∀l,((H.set 15 (.dK n K (λj=> .addr (b j) 0) d)).set 16 (.rows n 1 (fQ b) (.ty 132))).get l=if l=16 then .rows n 1 (fQ b) (.ty 132)else if l=15 then .dK n K (λj=> .addr (b j) 0) d else H.get l:=λl=>by rw[AH.bk,AH.bk]
 refine x.alike A (λl hl=>?_) (λl=>?_) λl=>?_
 ·rw[g];by_cases s:l=16
  ·subst s;rw[if_pos A];rw[q]at hl;refine⟨λ_ _=>rfl,?_⟩;rcases hl.2 with⟨m,o⟩|⟨bb,N,vs,rest,el,E,m,o,h3,h4,p⟩
   ·left;refine⟨?_,o⟩;cases n with
    |zero=>rfl
    |succ n=>have:=congrArg v_ m;rw[bD (n:=n+1) (e:=1) (f:=qB) λ_ _=>rfl]at this;simp at this
   ·right;refine⟨bb,N,vs,rest,el,E,m,o,h3,?_,p⟩;obtain⟨F,G⟩:=oV (f:=qB) (λ_=>rfl) h4;refine rb F λi hi=>?_
    obtain⟨v,I,J⟩:=G i hi;exact⟨v,I,aV.aM.2 ⟨conv i hi v (aV.aM.1 J).1,zH⟩⟩
  ·rw[if_neg s];by_cases p:l=15
   ·subst p;rw[if_pos A];rw[k]at hl;obtain⟨bb,N,u,f1,L,V,_⟩:=hl;refine⟨bb,N,u,f1,L,by simp_all,λj a e=>?_⟩
    grind
   grind
 ·rw[g];by_cases s:l=16
  ·subst s;rw[if_pos A,q];rfl
  ·rw[if_neg s];by_cases p:l=15
   ·subst p;rw[if_pos A,k];rfl
   ·rw[if_neg p]
 grind
def Lg{c:fE}{ρ:Env}{w:World}{H:AH}{n L:Nat}{K:Nat->List Int}{P:Nat->AV}{b:Option (Nat×AV)}{R:Nat->List AV}(p:Rel c ρ H w)(D:L≠15)(d:H.get 15= .dK n K P b)(h:H.get L= .rows n 1 R (.ty 132))(k:∀i,(R i).length=1)
  (E:∀j,j<n->b=m_ (j,.ptr (17+3*j) 0 0 0)∨∀v,VR ρ (P j) v->VR ρ (.ptr (17+3*j) 0 0 0) v) (q:∀j,j<n->∀v,aV ρ (R j) [v]->VR ρ (.ptr (17+3*j) 0 0 0) v):
  Rel c ρ ((H.set 15 (.dK n K (λj=> .ptr (17+3*j) 0 0 0) u_)).set L (.rows n 1 qB (.ty 132))) w:=by
 have g:∀l,((H.set 15 (.dK n K (λj=> .ptr (17+3*j) 0 0 0) u_)).set L (.rows n 1 qB (.ty 132))).get l=if l=L then .rows n 1 qB (.ty 132)else if l=15 then .dK n K (λj=> .ptr (17+3*j) 0 0 0) u_ else H.get l:=λl=>by rw[AH.bk,AH.bk]
 refine p.alike A (λl hl=>?_) (λl=>?_) λl=>?_
 ·rw[g];by_cases m:l=L
  ·subst m;rw[if_pos A];rw[h]at hl;refine⟨λ_ _=>rfl,?_⟩;rcases hl.2 with⟨h1,o⟩|⟨bb,N,vs,rest,el,r,h1,o,h3,h4,a⟩
   ·left;refine⟨?_,o⟩;cases n with
    |zero=>rfl
    |succ n=>have:=congrArg v_ h1;rw[bD (n:=n+1) (e:=1) (f:=R) λi _=>k i]at this;simp at this
   ·right;refine⟨bb,N,vs,rest,el,r,h1,o,h3,?_,a⟩;obtain⟨s,t⟩:=oV k h4;refine rb s λi hi=>?_
    obtain⟨v,x,y⟩:=t i hi;exact⟨v,x,aV.aM.2 ⟨q i hi v y,zH⟩⟩
  ·rw[if_neg m];by_cases a:l=15
   ·subst a;rw[if_pos A];rw[d]at hl;obtain⟨bb,N,u,f1,C,F,G⟩:=hl;refine⟨bb,N,u,f1,C,λi hi=>?_,zA⟩
    grind
   grind
 ·rw[g];by_cases m:l=L
  ·subst m;rw[if_pos A,h];rfl
  ·rw[if_neg m];by_cases a:l=15
   ·subst a;rw[if_pos A,d];rfl
   ·rw[if_neg a]
 grind
end
end Go.Sx
