/- The proof of a statement of the seat, part 34. -/
import Derived.Test.YtoijalagmmgkbaaGreatDoorX33
set_option linter.all false
set_option linter.defProp false
set_option maxRecDepth 1000000
namespace Go.Sx
open Go
open Nat renaming blt->B,beq->a_,add_zero->p_
open Classical renaming byContradiction->z
open List renaming range->b_,take->c_,drop->d_,length_set->k_
open Int renaming ofNat->e_,toNat->q_
open Go.IntKind renaming i64->f_
open Option renaming some->g_,none->m_
open Decidable renaming decide->h_
open AH renaming bH->i_,get_set_same->n_,Le->r_,get->s_,C5->v_,OI->w_
open Tr renaming ofList->j_
open AV renaming le->l_,own->t_,int->u_
noncomputable section
def cD:List (Nat×Zv)->Nat->Zv
 |[],_=> .dead
 |(i,b)::l,x=>if x=i then b else cD l x
def oP(n):∀(a)(x),s_ {n:=n,t:=j_ a} x=cD a x
 |[],x=>rfl
 |(i,b)::l,x=>by
  have c:=oP n l x
  unfold s_ at c⊢
  simp only[j_,Tr.bH,cD]
  grind
def te:List (Nat×AV)->Nat->AV
 |[],_=> .any
 |(i,b)::l,x=>if x=i then b else te l x
def fV:∀(a)(x),cR (j_ a) x=te a x
 |[],x=>rfl
 |(i,b)::l,x=>by
  have c:=fV l x
  unfold cR at c⊢
  simp only[j_,Tr.bH,te]
  grind
def NO(l):HR.get l=cD [(0,.cells [.az 5 2 aA] .ro),(1,.cells [.str [48],.str [49]] .ro),(3,.cells [.map (g_ 13)] .ro),(6,.cells dz (.ex 20)),(13,.map lS)] l:=oP _ _ _
def wY(a):∀(c)(x),cD (c++a) x=if x∈c.map (·.1)then cD c x else cD a x
 |[],x=>by simp[cD]
 |(i,b)::l,x=>by
  simp only[List.cons_append,cD,List.map_cons,List.mem_cons]
  by_cases h:x=i
  ·simp[h]
  ·simp only[h,false_or,if_false]
   exact wY a l x
def eX{q n b}(c:∀x,x<15->cD b x= .dead)(l):(hG q n b).get l=if l<14 then HR.get l else if l=14 then .cells (aY q) (.ty 32)else cD b l:=by
 show s_ {n:=n,t:=j_ _} l=_
 rw[oP,NO,wY]
 show(if l∈[0,1,3,6,13]then _ else _)=_
 by_cases hm:l∈[0,1,3,6,13]
 grind
 ·rw[if_neg hm]
  show(if l=14 then _ else cD b l)=_
  by_cases a:l<14
  ·rw[if_pos a,if_neg O,c l O]
   simp at hm
   simp[cD,hm]
  ·rw[if_neg a]
def Fy{σ}(h:∀j,j<14->σ j=j)(l):(HR.get l).bD σ=HR.get l:=by
 rw[wI]
 by_cases a:l=0
 ·rw[if_pos a];rfl
 ·rw[if_neg a]
  by_cases b:l=1
  ·rw[if_pos b];rfl
  ·rw[if_neg b]
   by_cases c:l=3
   ·rw[if_pos c]
    show Zv.cells [.map (g_ (σ 13))] .ro=_
    rw[h 13 zC]
   ·rw[if_neg c]
    by_cases d:l=6
    ·rw[if_pos d]
     rfl
    ·rw[if_neg d]
     by_cases Jh:l=13
     ·rw[if_pos Jh];rfl
     ·rw[if_neg Jh];rfl
def G9{σ}(h:∀j,j<14->σ j=j)(l):(HR.get l).le σ (HR.get l):=by
 rw[wI]
 by_cases a:l=0
 ·rw[if_pos a];exact⟨⟨⟨rfl,rfl,λi hi=>aZ i hi _⟩,trivial⟩,trivial⟩
 ·rw[if_neg a]
  by_cases b:l=1
  ·rw[if_pos b];exact⟨⟨rfl,rfl,trivial⟩,trivial⟩
  ·rw[if_neg b]
   by_cases c:l=3
   ·rw[if_pos c];exact⟨⟨(h 13 zC).symm,trivial⟩,trivial⟩
   ·rw[if_neg c]
    by_cases d:l=6
    ·rw[if_pos d];exact⟨pz _,rfl⟩
    ·rw[if_neg d]
     by_cases Jh:l=13
     ·rw[if_pos Jh]
      refine⟨rfl,?_,?_⟩
      ·simp[gK,lS,bt.le,l_]
      ·simp[gK,lS,bt.le,l_]
     ·rw[if_neg Jh];exact trivial
def A4{q n0 a H σ}(s:15<=n0)(b:∀x,x<15->cD a x= .dead)(c:∀x,n0<=x->cD a x= .dead)(t:∀l,l<14->H.get l=HR.get l)(f:H.get 14= .cells (aY q) (.ty 32))(hid:∀l,l<15->σ l=l)
  (i:∀l,l<n0->σ l<H.n) (k:∀l,n0<=l->σ l=H.n+(l-n0)) (m:∀l,15<=l->cD a l≠ .dead->H.get (σ l)=(cD a l).bD σ) (o:∀l d,l<n0->d<n0->σ l=σ d->l=d):Sub II.G σ (hG q n0 a) H where
 lt:=i
 ge:=k
 same l p:=by
  rw[eX b]at p⊢
  by_cases h:l<14
  ·rw[if_pos h,hid l O,t l h,Fy λj u=>hid j O]
  ·rw[if_neg h]at p⊢
   by_cases e:l=14
   ·subst e;rw[if_pos A,hid 14 O,f];rfl
   grind
 inj l d h1 v e:=by
  grind
 fp g r:=by
  have r:g<12:=r
  exact⟨Nat.lt_of_lt_of_le (O:g<15) s,hid g O⟩
 low l hl:=by
  have hl:n0<=l:=hl
  rw[eX b,if_neg O,if_neg O]
  exact c l hl
structure bj where
 key:List Int
 W:Nat->Int
 m:Nat
 L:Nat->Int
 G:Nat->Int
 C:Nat->Bool
 T:Nat->Int
 deriving Inhabited
def aK(gs:List bj)(j:Nat):bj:=gs.getD j default
def lU(x:bj)(g l:Nat):Nat->Zv
 |0=> .cells [.az g 1 (ae x.W),.own (l+1) x.m 3,.own (l+2) x.m 1] (.ty 94)
 |1=> .rows x.m 3 (bi x.L x.G x.C) (.ty 99)
 |_=> .rows x.m 1 (ae x.T) (.ty 3)
def A5(q:Query)(gs:List bj)(l:Nat):Zv :=
 if l<14 then HR.get l else if l=14 then .cells (aY q) (.ty 32)else if l=15 then .cT gs.length (λj=>(aK gs j).key) (λj=> .ptr (17+3*j) 0 0 0) m_ else if l=16 then .rows gs.length 1 oe (.ty 89)else lU (aK gs ((l-17)/3)) q.ng l ((l-17)%3)
def fB(q:Query)(gs:List bj):AH:=v_ (17+3*gs.length) (A5 q gs)
def Ha(q:Query)(k:Nat)(F:Nat->ay)(gs:List bj)(i:Nat):St:={t:=tG k F (.own 16 gs.length 1) (i:Int),nt:=86,H:=fB q gs,df:=[]}
def gu(q)(gs)(l):(fB q gs).get l=if l<17+3*gs.length then A5 q gs l else .dead:=w_ _ _ _
def tf{σ}(g:σ 14=14)(h:σ 15=15){k F out b a}(m:b=out.bD σ)(i):cR (tG k F b a) i=(cR (tG k F out a) i).bD σ:=by
 unfold tG
 rw[fV,fV]
 simp only[te]
 by_cases c:i=2
 ·simp only[c,if_true];show _=AV.ptr (σ 14) 0 0 0;rw[g]
 ·by_cases d:i=5
  ·simp only[d,c,if_true,if_false];show _=AV.map (g_ (σ 15));rw[h];rfl
  ·by_cases e:i=6
   grind
   ·by_cases f:i=15
    ·simp only[f,c,d,e,if_true,if_false];rfl
    ·by_cases j:i=16
     ·simp only[j,c,d,e,f,if_true,if_false];rfl
     ·by_cases l:i=17
      ·simp only[l,c,d,e,f,j,if_true,if_false];rfl
      ·simp only[c,d,e,f,j,l,if_false];rfl
def gU(k)(F:Nat->ay):an k (λi=>aF (F i)) (λi=>aF (F i)):=λi _ σ=>⟨⟨rfl,rfl⟩,⟨rfl,rfl⟩,⟨rfl,rfl⟩,⟨rfl,rfl⟩,⟨rfl,rfl⟩,⟨rfl,rfl⟩,⟨rfl,rfl⟩,⟨rfl,rfl⟩,⟨rfl,rfl⟩,⟨rfl,rfl⟩,trivial⟩
def wZ(q:Query)(k:Nat)(F:Nat->ay)(gs b:List bj)(i:Nat):Prop :=
 ∀(ro:Option Nat)(n:Nat)(c:zS)(ρ:Env)(a:Act)(w:World),ro=m_->c.G=II.G->(∀l,c.E l->l<16)->cA c ρ (Ha q k F gs i) a w->
  (aD II 40 4001).wpIn (WF ro) n PP (λx a1 d=>x= .normal/\∃ρ',iU 16 ρ ρ'/\cA c ρ' (Ha q k F b (i+1)) a1 d) a w
def Fz(q)(k)(F)(n i)(hi:i<k)(e:k<=1000000)(a:ct q=true)(b:bB (F i)=true)(c:gk q (F i)=false):
  kg [jW q,qj q 0] 40 4001 17 (ui q k F 0 0 0 (.own 16 n 1) (i:Int) false) (ui q k F 0 0 0 (.own 16 n 1) (i:Int) true) (λ_=>True):=by
 rw[NL (l:=0) _ _ _ _ _ _ _ _ _ A]
 have d:q_ (i:Int)=i:=O
 have f:e_ k=(k:Int):=rfl
 have fl:=gU k F
 have hQ:=trivial
 rw[d,jv,a,b,c]
 refine Zg (λ_=>?_) O
 refine cC _ _ Y (cC _ _ A ?_)
 show ah true _ _
 refine cC _ _ (aq O O) ?_
 repeat' (first|with_reducible refine Zf A ?_|with_reducible refine YG A ?_|with_reducible refine Zi A ?_|with_reducible refine And.intro ?_ ?_|with_reducible exact bC _ _|with_reducible exact bO _ _|with_reducible exact aZ|omega|omega)
def JC(q)(k)(F)(gs)(i)(hi:i<k)(r:k<=1000000)(s:ct q=true)(t:bB (F i)=true)(g:gk q (F i)=false):wZ q k F gs gs i:=by
 intro ro n c ρ a w m e E p
 let σ:Nat->Nat:=λl=>if l<17 then l else 17+3*gs.length+(l-17)
 have b:∀l,l<17->σ l=l:=λl h=>Y
 have d:∀l,17<=l->σ l=17+3*gs.length+(l-17):=λl h=>Y
 have nil:∀x,cD [] x= .dead:=λ_=>rfl
 have f:Sub c.G σ (hG q 17 []) (fB q gs):=by
  rw[e]
  refine A4 (H:=fB q gs) zC (λ_ _=>rfl) (λ_ _=>rfl) (λl h=>?_) ?_ (λl h=>b l O) (λl h=>?_) (λl h=>d l h) Y Y
  ·rw[gu,if_pos O];unfold A5;rw[if_pos h]
  ·rw[gu,if_pos O];rfl
  ·rw[b l h];show l<17+3*gs.length;omega
 have o:Eb σ (hG q 17 []) (hG q 17 []) (fB q gs) (fB q gs):=
  {n:=by rfl
   old:=λl u=>f.same l u
   new:=λl hl=>by
    have hl:17<=l:=hl
    rw[d l hl,gu,if_neg O,f.low l hl];rfl
   rest:=λ_ _ _=>rfl}
 refine wpIn_mono (td (SB:=Ha q k F gs i) (Fz q k F gs.length i hi r s t g) (λj=>tf (b 14 zC) (b 15 zC) (by rfl) j) A ⟨rfl,rfl⟩ ro n c ρ a w m e f p) λx a1 I g=>?_
 obtain⟨rfl,J,v,l1,_,r1⟩:=g
 obtain⟨y,_,C⟩:=r1.view l1 (by show c.G<=17;rw[e];decide) (λl hl=>hl)
 obtain⟨ρ',hx,_,D⟩:=pJ (SB':=Ha q k F gs (i+1)) p f C o (λj=>tf (b 14 zC) (b 15 zC) (by rfl) j) rfl ⟨rfl,rfl⟩
 exact⟨rfl,ρ',iU.of hx,D⟩
def FA(q:Query)(x:ay):List Int:=[bif B 0 q.ng then bc q x 0 else 0,bif B 1 q.ng then bc q x 1 else 0,bif B 2 q.ng then bc q x 2 else 0]
def NP(q:Query)(W:Nat->Int)(h:q.ng<=3):(Nat.ble q.ng 3&&List.all (b_ q.ng) λ_=>h_ (f_=f_))=true:=by
 simp_all
def gV(W:Nat->Int)(m:Nat)(v:Int)(j:Nat):Int:=if j=m then v else W j
def uj(W:Nat->Bool)(m:Nat)(v:Bool)(j:Nat):Bool:=if j=m then v else W j
def NQ(T)(m)(v):an (m+1) (λi=>bif B i m then ae T i else c_ 1 (d_ (0+(i-m)*1) [.int f_ v])) (ae (gV T m v)):=λk a σ=>by
 show bt.le σ (bif B k m then ae T k else c_ 1 (d_ (0+(k-m)*1) [.int f_ v])) [.int f_ (gV T m v k)]
 unfold gV
 by_cases h:k<m
 ·rw[eV h,if_neg O];exact⟨⟨rfl,rfl⟩,trivial⟩
 ·have:k=m:=by omega
  subst this
  rw[js h,if_pos A,show 0+(k-k)*1=0 by omega]
  exact⟨⟨rfl,rfl⟩,trivial⟩
def QT(L G)(C)(m)(a b)(c):an (m+1) (λi=>bif B i m then bi L G C i else c_ 3 (d_ (0+(i-m)*3) [.int f_ a,.int f_ b,.bool c])) (bi (gV L m a) (gV G m b) (uj C m c)):=λk d σ=>by
 show bt.le σ (bif B k m then bi L G C k else c_ 3 (d_ (0+(k-m)*3) [.int f_ a,.int f_ b,.bool c])) [.int f_ (gV L m a k),.int f_ (gV G m b k),.bool (uj C m c k)]
 unfold gV uj
 by_cases h:k<m
 ·rw[eV h,if_neg O,if_neg O,if_neg O];exact⟨⟨rfl,rfl⟩,⟨rfl,rfl⟩,rfl,trivial⟩
 ·have:k=m:=by omega
  subst this
  rw[js h,if_pos A,if_pos A,if_pos A,show 0+(k-k)*3=0 by omega]
  exact⟨⟨rfl,rfl⟩,⟨rfl,rfl⟩,rfl,trivial⟩
def QU(v):an 1 (fW [.int f_ v] 1) λ_=>[.int f_ v]:=λk a σ=>by
 have:k=0:=O
 subst this
 exact⟨⟨rfl,rfl⟩,trivial⟩
def Uw(a b)(c):an 1 (fW [.int f_ a,.int f_ b,.bool c] 3) λ_=>[.int f_ a,.int f_ b,.bool c]:=λk d σ=>by
 have:k=0:=O
 subst this
 exact⟨⟨rfl,rfl⟩,⟨rfl,rfl⟩,rfl,trivial⟩
def FB(n)(b):an n (eW b) (eW b):=λ_ _ _=>⟨⟨rfl,rfl⟩,trivial⟩
def JD(n)(b)(l):an (n+1) (λi=>bif B i n then eW b i else c_ 1 (d_ (0+(i-n)*1) [.ptr l 0 0 0])) (λj=>bif a_ j n then [.any]else eW b j):=λk a σ=>by
 show bt.le σ (bif B k n then eW b k else c_ 1 (d_ (0+(k-n)*1) [.ptr l 0 0 0])) (bif a_ k n then [.any]else eW b k)
 by_cases h:k<n
 ·have e:a_ k n=false:=by
   cases c:a_ k n with
   |false=>rfl
   |true=>simp_all
  rw[eV h,e];exact⟨⟨rfl,rfl⟩,trivial⟩
 ·have:k=n:=by omega
  subst this
  rw[js h,ni,show 0+(k-k)*1=0 by omega]
  exact⟨trivial,trivial⟩
def NR(n)(K)(ks)(b:Nat->Nat)(l):∀i,i<n+1->cZ n K ks i=cZ n K ks i/\∀σ,l_ σ (nz n (λj=> .addr (b j) 0) (.ptr l 0 0 0) i) (bif a_ i n then .any else .addr (b i) 0):=λi hi=>⟨rfl,λσ=>by
 unfold nz
 cases a_ i n with
 |true=>exact trivial
 |false=>exact⟨rfl,rfl⟩⟩
def QV(n)(b)(l):(bif B n n then eW b n else c_ 1 (d_ (0+(n-n)*1) [.ptr l 0 0 0]))=[.ptr l 0 0 0]:=by
 rw[js (HD n),show 0+(n-n)*1=0 by omega];rfl
def JE(q)(k n)(F)(K)(b)(j m)(W L G T)(C)(i)(hi:i<k)(s:k<=1000000)(t:m<=1000000)(c:ct q=true)(d:q.ng<=3)(e:bB (F i)=true)(f:gk q (F i)=true)(a1:(ob n K 3&&uI n K [bif B 0 q.ng then bc q (F i) 0 else 0,bif B 1 q.ng then bc q (F i) 1 else 0,bif B 2 q.ng then bc q (F i) 2 else 0] j)=true):
  kg [jW q,qj q q.ng] 40 4001 20 (Fx q k n F K b j q.ng W m (bi L G C) (ae T) (bi (gV L m (kR q (F i))) (gV G m (lJ q (F i))) (uj C m (Br q (F i)))) (ae (gV T m (i:Int))) (i:Int) false) (Fx q k n F K b j q.ng W m (bi L G C) (ae T) (bi (gV L m (kR q (F i))) (gV G m (lJ q (F i))) (uj C m (Br q (F i)))) (ae (gV T m (i:Int))) (i:Int) true) (λ_=>True):=by
 rw[QS _ _ _ _ _ _ _ _ _ _ _ _ _ _ _ A A]
 have g:q_ (i:Int)=i:=O
 have u:e_ k=(k:Int):=rfl
 have fl:=gU k F
 have hQ:=trivial
 have h:=NQ T m (i:Int)
 have l:=QT L G C m (kR q (F i)) (lJ q (F i)) (Br q (F i))
 have o:=FB n b
 have p:a_ q.ng q.ng=true:=ni _
 have r:=NP q (bc q (F i)) d
 have a2:(h_ (m<=m)&&true&&true&&h_ ((m+1)*24<=140737488355328)&&true)=true:=by rw[bW (dw m),bW O];rfl
 have a:(h_ (m<=m)&&true&&true&&h_ ((m+1)*8<=140737488355328)&&true)=true:=by rw[bW (dw m),bW O];rfl
 have a4:aN f_ ((i:Int)+1)=true:=aq O O
 rw[g,jv,c,e,f,p]
 refine Zg (λ_=>?_) O
 refine cC _ _ Y (cC _ _ A ?_)
 show ah false _ _
 try refine cC _ _ A ?_
 repeat' (first|with_reducible refine Zf A ?_|with_reducible refine YG A ?_|with_reducible refine Zi A ?_|with_reducible refine And.intro ?_ ?_|with_reducible exact bL _ _|with_reducible exact bC _ _|with_reducible exact bO _ _|with_reducible exact aZ|with_reducible exact fl|with_reducible exact h|with_reducible exact l|with_reducible exact o|with_reducible exact hQ|with_reducible refine cC _ _ a1 ?_|with_reducible refine cC _ _ a2 ?_|with_reducible refine cC _ _ a ?_|with_reducible refine cC _ _ a4 ?_|refine cC _ _ r ?_|exactλ_ _=>⟨rfl,λ_=>⟨rfl,rfl⟩⟩|refine cC _ _ a1 ?_|refine cC _ _ a2 ?_|refine cC _ _ a ?_|refine cC _ _ (by simp;done) ?_)
def JF(q)(k n)(F)(K)(b)(i)(hi:i<k)(t:k<=1000000)(u:n<=1000000)(d:ct q=true)(e:q.ng<=3)(f:bB (F i)=true)(g:gk q (F i)=true)(a1:(ob n K 3&&Kv n K [bif B 0 q.ng then bc q (F i) 0 else 0,bif B 1 q.ng then bc q (F i) 1 else 0,bif B 2 q.ng then bc q (F i) 2 else 0])=true)(a2:(ob (n+1) (cZ n K [bif B 0 q.ng then bc q (F i) 0 else 0,bif B 1 q.ng then bc q (F i) 1 else 0,bif B 2 q.ng then bc q (F i) 2 else 0]) 3&&uI (n+1) (cZ n K [bif B 0 q.ng then bc q (F i) 0 else 0,bif B 1 q.ng then bc q (F i) 1 else 0,bif B 2 q.ng then bc q (F i) 2 else 0]) [bif B 0 q.ng then bc q (F i) 0 else 0,bif B 1 q.ng then bc q (F i) 1 else 0,bif B 2 q.ng then bc q (F i) 2 else 0] n)=true):
  kg [jW q,qj q q.ng] 40 4001 17 (QQ q k n F K b [bif B 0 q.ng then bc q (F i) 0 else 0,bif B 1 q.ng then bc q (F i) 1 else 0,bif B 2 q.ng then bc q (F i) 2 else 0] q.ng (bc q (F i)) (kR q (F i)) (lJ q (F i)) (Br q (F i)) (i:Int) false) (QQ q k n F K b [bif B 0 q.ng then bc q (F i) 0 else 0,bif B 1 q.ng then bc q (F i) 1 else 0,bif B 2 q.ng then bc q (F i) 2 else 0] q.ng (bc q (F i)) (kR q (F i)) (lJ q (F i)) (Br q (F i)) (i:Int) true) (C4 n):=by
 have h:=QR q k n F K b (i:Int) A
 have j:q_ (i:Int)=i:=O
 rw[j]at h
 rw[h]
 have v:e_ k=(k:Int):=rfl
 have fl:=gU k F
 have l:=QU (i:Int)
 have m:=Uw (kR q (F i)) (lJ q (F i)) (Br q (F i))
 have o:=JD n b 20
 have p:=NR n K [bif B 0 q.ng then bc q (F i) 0 else 0,bif B 1 q.ng then bc q (F i) 1 else 0,bif B 2 q.ng then bc q (F i) 2 else 0] b 20
 have a:=QV n b 20
 have r:a_ q.ng q.ng=true:=ni _
 have s:=NP q (bc q (F i)) e
 have c:(h_ (n<=n)&&true&&true&&h_ ((n+1)*8<=140737488355328)&&true)=true:=by rw[bW (dw n),bW O];rfl
 have a4:aN f_ ((i:Int)+1)=true:=aq O O
 rw[jv,d,f,g,r]
 refine Zg (λ_=>?_) O
 refine cC _ _ Y (cC _ _ A ?_)
 show ah false _ _
 try refine cC _ _ A ?_
 repeat' (first|with_reducible refine Zf A ?_|with_reducible refine YG A ?_|with_reducible refine Zi A ?_|with_reducible refine And.intro ?_ ?_|with_reducible exact bL _ _|with_reducible exact bC _ _|with_reducible exact bO _ _|with_reducible exact aZ|with_reducible exact fl|with_reducible exact l|with_reducible exact m|with_reducible exact o|with_reducible exact p|with_reducible exact a|with_reducible refine cC _ _ a1 ?_|with_reducible refine cC _ _ a2 ?_|with_reducible refine cC _ _ c ?_|with_reducible refine cC _ _ a4 ?_|refine cC _ _ s ?_|refine cC _ _ a1 ?_|refine cC _ _ a2 ?_|refine cC _ _ c ?_|refine cC _ _ (by simp;done) ?_|exact a|(rw[js (HD n),show 0+(n-n)*1=0 by omega];rfl))
def NS{σ:Nat->Nat}(g:σ 14=14)(h:σ 15=15){k:Nat}{F:Nat->ay}{out b:AV}{a:Int}(o:l_ σ out b)(i:Nat):l_ σ (cR (tG k F out a) i) (cR (tG k F b a) i):=by
 unfold tG
 rw[fV,fV]
 simp only[te]
 by_cases c:i=2
 ·simp only[c,if_true];exact⟨g.symm,rfl,rfl,rfl⟩
 ·by_cases d:i=5
  ·simp only[d,c,if_true,if_false];exact h.symm
  ·by_cases e:i=6
   grind
   ·by_cases f:i=15
    ·simp only[f,c,d,e,if_true,if_false];exact⟨rfl,rfl,λj n=>gU k F j n σ⟩
    ·by_cases l:i=16
     ·simp only[l,c,d,e,f,if_true,if_false];exact⟨rfl,rfl⟩
     ·by_cases m:i=17
      ·simp only[m,c,d,e,f,l,if_true,if_false];exact⟨rfl,rfl⟩
      ·simp only[c,d,e,f,l,m,if_false];exact trivial
def gg{gs j}(a:j<gs.length)(x)(l):aK (gs.set j x) l=if l=j then x else aK gs l:=by
 unfold aK
 grind
def lE{q gs l}(h:l<14):(fB q gs).get l=HR.get l:=by
 rw[gu,if_pos O];unfold A5;rw[if_pos h]
def oQ(q)(gs):(fB q gs).get 14= .cells (aY q) (.ty 32):=by
 rw[gu,if_pos O];rfl
def Ps(q)(gs):(fB q gs).get 15= .cT gs.length (λj=>(aK gs j).key) (λj=> .ptr (17+3*j) 0 0 0) m_:=by
 rw[gu,if_pos O];rfl
def R4(q)(gs):(fB q gs).get 16= .rows gs.length 1 oe (.ty 89):=by
 rw[gu,if_pos O];rfl
def lV{q gs j d}(a:j<gs.length)(b:d<3):(fB q gs).get (17+3*j+d)=lU (aK gs j) q.ng (17+3*j+d) d:=by
 rw[gu,if_pos O];unfold A5
 grind
def P3{q gs l}(h:17+3*gs.length<=l):(fB q gs).get l= .dead:=by
 rw[gu,if_neg O]
def jw(T)(σ)(i):bt.le σ (ae T i) (ae T i):=⟨⟨rfl,rfl⟩,trivial⟩
def kS(L G)(C)(σ)(i):bt.le σ (bi L G C i) (bi L G C i):=⟨⟨rfl,rfl⟩,⟨rfl,rfl⟩,rfl,trivial⟩
def Hb{σ:Nat->Nat}{x:bj}{g l d:Nat}(a:d<3)(h:d=0->σ (l+1)=l+1/\σ (l+2)=l+2):(lU x g l d).le σ (lU x g l d):=by
 match d,a with
 |0,_=>exact⟨⟨⟨rfl,rfl,λi _=>jw _ σ i⟩,⟨(h A).1.symm,rfl,rfl⟩,⟨(h A).2.symm,rfl,rfl⟩,trivial⟩,rfl⟩
 |1,_=>exact⟨rfl,rfl,λi _=>kS _ _ _ σ i,rfl⟩
 |2,_=>exact⟨rfl,rfl,λi _=>jw _ σ i,rfl⟩
def w6(n l):l<14∨l=14∨l=15∨l=16∨(∃i d,i<n/\d<3/\l=17+3*i+d)∨17+3*n<=l:=by
 by_cases h:l<17
 ·omega
 ·by_cases a:17+3*n<=l
  ·omega
  ·exact .inr (.inr (.inr (.inr (.inl ⟨(l-17)/3,(l-17)%3,O,O,O⟩))))
def qJ(N j l:Nat):Nat:=if l<17 then l else if l<20 then 17+3*j+(l-17)else N+(l-20)
def yb(N j l:Nat):Nat:=if l=17+3*j+1 then N else if l=17+3*j+2 then N+1 else if l<N then l else l+2
def rV(q:Query)(gs:List bj)(b:Nat->Nat)(j:Nat):AH:=((fB q gs).set 15 (.cT gs.length (λj=>(aK gs j).key) (λj=> .addr (b j) 0) (g_ (j,.ptr (17+3*j) 0 0 0)))).set 16 (.rows gs.length 1 (eW b) (.ty 89))
def dB(q)(gs)(b)(j l):(rV q gs b j).get l=if l=16 then .rows gs.length 1 (eW b) (.ty 89)else if l=15 then .cT gs.length (λj=>(aK gs j).key) (λj=> .addr (b j) 0) (g_ (j,.ptr (17+3*j) 0 0 0))else(fB q gs).get l:=by
 unfold rV;rw[i_,i_]
def mj(q:Query)(gs:List bj)(b:Nat->Nat)(j:Nat)(x:bj)(l:Nat):Zv :=
 if l=17+3*j then .cells [.az q.ng 1 (ae x.W),.own (17+3*gs.length) x.m 3,.own (17+3*gs.length+1) x.m 1] (.ty 94)else if l=17+3*j+1 then .dead else if l=17+3*j+2 then .dead else if l=17+3*gs.length then .rows x.m 3 (bi x.L x.G x.C) (.ty 99)else if l=17+3*gs.length+1 then .rows x.m 1 (ae x.T) (.ty 3)else(rV q gs b j).get l
def w7(q:Query)(gs:List bj)(b:Nat->Nat)(j:Nat)(x:bj):AH:=v_ (17+3*gs.length+2) (mj q gs b j x)
def eZ(q)(gs)(b)(j)(x)(l):(w7 q gs b j x).get l=if l<17+3*gs.length+2 then mj q gs b j x l else .dead:=w_ _ _ _
def w8(n:Nat)(K:Nat->List Int)(b:Nat->Nat)(j g:Nat)(W:Nat->Int)(m:Nat)(S T:Nat->List AV):List (Nat×Zv):=[(15,.cT n K (λj=> .addr (b j) 0) (g_ (j,.ptr 17 0 0 0))),(16,.rows n 1 (eW b) (.ty 89)),(17,.cells [.az g 1 (ae W),.own 18 m 3,.own 19 m 1] (.ty 94)),(18,.rows m 3 S (.ty 99)),(19,.rows m 1 T (.ty 3))]
def w9(n:Nat)(K:Nat->List Int)(b:Nat->Nat)(j g:Nat)(W:Nat->Int)(m:Nat)(S T:Nat->List AV):List (Nat×Zv):=[(15,.cT n K (λj=> .addr (b j) 0) (g_ (j,.ptr 17 0 0 0))),(16,.rows n 1 (eW b) (.ty 89)),(17,.cells [.az g 1 (ae W),.own 20 m 3,.own 21 m 1] (.ty 94)),(20,.rows m 3 S (.ty 99)),(21,.rows m 1 T (.ty 3))]
def oR{n K b j g W m S T l}(a:cD (w8 n K b j g W m S T) l≠ .dead):l=15∨l=16∨l=17∨l=18∨l=19:=z λh=>a (by
 simp only[not_or]at h
 obtain⟨c,d,e,f,i⟩:=h
 simp only[w8,cD,c,d,e,f,i,if_false])
def ZR{n K b j g W m S T l}(a:l≠15)(c:l≠16)(d:l≠17)(e:l≠20)(f:l≠21):cD (w9 n K b j g W m S T) l= .dead:=by
 simp only[w9,cD,a,c,d,e,f,if_false]
set_option maxHeartbeats 4000000 in
def NT(q:Query)(k:Nat)(F:Nat->ay)(gs:List bj)(i j:Nat)(g:bj)(ks:List (aC PP II))(P:j<gs.length)(a7:g.key=(aK gs j).key)(a8:g.W=(aK gs j).W)(bd:g.m=(aK gs j).m+1)
  (small:∀b,kg ks 40 4001 20 (Fx q k gs.length F (λj=>(aK gs j).key) b j q.ng (aK gs j).W (aK gs j).m (bi (aK gs j).L (aK gs j).G (aK gs j).C) (ae (aK gs j).T) (bi g.L g.G g.C) (ae g.T) (i:Int) false) (Fx q k gs.length F (λj=>(aK gs j).key) b j q.ng (aK gs j).W (aK gs j).m (bi (aK gs j).L (aK gs j).G (aK gs j).C) (ae (aK gs j).T) (bi g.L g.G g.C) (ae g.T) (i:Int) true) (λ_=>True)):
  wZ q k F gs (gs.set j g) i:=by
 intro ro n c ρ a w bs J hE hr
 obtain⟨b,hb,U⟩:=C6 (n:=gs.length) (K:=λj=>(aK gs j).key) hr.heap (Ps q gs) (R4 q gs)
 have r0:Rel c ρ (rV q gs b j) w:=U (g_ (j,.ptr (17+3*j) 0 0 0)) (by rintro j' a e;cases e;exact⟨P,rfl⟩)
 have V:cA c ρ {Ha q k F gs i with H:=rV q gs b j} a w:=⟨hr.tmp,r0,hr.df⟩
 have p:∀l,l<17->qJ (17+3*gs.length) j l=l:=λl h=>by unfold qJ;rw[if_pos h]
 have y:qJ (17+3*gs.length) j 17=17+3*j:=rfl
 have D:qJ (17+3*gs.length) j 18=17+3*j+1:=rfl
 have E:qJ (17+3*gs.length) j 19=17+3*j+2:=rfl
 have Q:∀l,20<=l->qJ (17+3*gs.length) j l=17+3*gs.length+(l-20):=λl h=>by unfold qJ;rw[if_neg O,if_neg O]
 have t0:=lV (q:=q) (gs:=gs) P (O:0<3)
 have t1:=lV (q:=q) (gs:=gs) P (O:1<3)
 have t2:=lV (q:=q) (gs:=gs) P (O:2<3)
 have hs:Sub c.G (qJ (17+3*gs.length) j) (hG q 20 (w8 gs.length (λj=>(aK gs j).key) b j q.ng (aK gs j).W (aK gs j).m (bi (aK gs j).L (aK gs j).G (aK gs j).C) (ae (aK gs j).T))) (rV q gs b j):=by
  rw[J]
  refine A4 zC (λl hl=>?_) (λl hl=>?_) (λl h=>?_) ?_ (λl h=>p l O) (λl h=>?_) (λl h=>Q l h) (λl hl u=>?_) λl l' h h' e=>?_
  ·exact z λu=>by have:=oR u;omega
  ·exact z λu=>by have:=oR u;omega
  ·rw[dB,if_neg O,if_neg O,lE h]
  ·rw[dB,if_neg O,if_neg O,oQ]
  ·show qJ _ _ l<17+3*gs.length
   unfold qJ
   by_cases h1:l<17
   ·rw[if_pos h1];omega
   ·rw[if_neg h1,if_pos h];omega
  ·rcases oR u with rfl|rfl|rfl|rfl|rfl
   ·rw[p 15 zC,dB,if_neg O,if_pos A];rfl
   ·rw[p 16 zC,dB,if_pos A];rfl
   ·rw[y,dB,if_neg O,if_neg O];exact t0
   ·rw[D,dB,if_neg O,if_neg O];exact t1
   ·rw[E,dB,if_neg O,if_neg O];exact t2
  ·unfold qJ at e
   split at e<;>split at e<;>(try split at e)<;>(try split at e)<;>omega
 have b0:Eb (qJ (17+3*gs.length) j) (hG q 20 (w8 gs.length (λj=>(aK gs j).key) b j q.ng (aK gs j).W (aK gs j).m (bi (aK gs j).L (aK gs j).G (aK gs j).C) (ae (aK gs j).T))) (hG q 22 (w9 gs.length (λj=>(aK gs j).key) b j q.ng g.W g.m (bi g.L g.G g.C) (ae g.T))) (rV q gs b j) (w7 q gs b j g):=by
  have nd:∀l,l<15->cD (w8 gs.length (λj=>(aK gs j).key) b j q.ng (aK gs j).W (aK gs j).m (bi (aK gs j).L (aK gs j).G (aK gs j).C) (ae (aK gs j).T)) l= .dead:=λl hl=>z λu=>by have:=oR u;omega
  have X:∀l,l<15->cD (w9 gs.length (λj=>(aK gs j).key) b j q.ng g.W g.m (bi g.L g.G g.C) (ae g.T)) l= .dead:=λl hl=>ZR O O O O O
  refine⟨?_,λl u=>?_,λl hl=>?_,λl hl S=>?_⟩
  ·show 17+3*gs.length+2=17+3*gs.length+(22-20);omega
  ·rw[eX nd]at u
   rw[eX X]
   by_cases h:l<14
   ·rw[if_pos h,p l O,Fy λj P=>p j O,eZ,if_pos O]
    unfold mj
    rw[if_neg O,if_neg O,if_neg O,if_neg O,if_neg O,dB,if_neg O,if_neg O,lE h]
   ·rw[if_neg h]at u⊢
    by_cases Y:l=14
    ·subst Y
     rw[if_pos A,p 14 O,eZ,if_pos O]
     unfold mj
     rw[if_neg O,if_neg O,if_neg O,if_neg O,if_neg O,dB,if_neg O,if_neg O,oQ];rfl
    ·rw[if_neg Y]at u⊢
     rcases oR u with rfl|rfl|rfl|rfl|rfl
     ·rw[p 15 zC,eZ,if_pos O]
      unfold mj
      rw[if_neg O,if_neg O,if_neg O,if_neg O,if_neg O,dB,if_neg O,if_pos A];rfl
     ·rw[p 16 zC,eZ,if_pos O]
      unfold mj
      rw[if_neg O,if_neg O,if_neg O,if_neg O,if_neg O,dB,if_pos A];rfl
     ·rw[y,eZ,if_pos O]
      unfold mj
      rw[if_pos A];rfl
     ·rw[D,eZ,if_pos O]
      unfold mj
      rw[if_neg O,if_pos A];rfl
     ·rw[E,eZ,if_pos O]
      unfold mj
      rw[if_neg O,if_neg O,if_pos A];rfl
  ·have hl:20<=l:=hl
   rw[eX X,if_neg O,if_neg O,Q l hl,eZ]
   by_cases Z:l=20
   ·subst Z
    rw[if_pos O]
    unfold mj
    rw[if_neg O,if_neg O,if_neg O,if_pos O];rfl
   ·by_cases ab:l=21
    ·subst ab
     rw[if_pos O]
     unfold mj
     rw[if_neg O,if_neg O,if_neg O,if_neg O,if_pos O];rfl
    ·rw[if_neg O,ZR O O O Z ab];rfl
  ·have hl:l<17+3*gs.length:=hl
   have I:∀d,d<3->(hG q 20 (w8 gs.length (λj=>(aK gs j).key) b j q.ng (aK gs j).W (aK gs j).m (bi (aK gs j).L (aK gs j).G (aK gs j).C) (ae (aK gs j).T))).get (17+d)≠ .dead:=λd u=>by
    rw[eX nd,if_neg O,if_neg O]
    match d,u with
    |0,_=>exactλe=>zG
    |1,_=>exactλe=>zG
    |2,_=>exactλe=>zG
   have n0:l≠17+3*j:=λe=>S 17 (I 0 O) (by rw[y];exact e.symm)
   have n1:l≠17+3*j+1:=λe=>S 18 (I 1 O) (by rw[D];exact e.symm)
   have n2:l≠17+3*j+2:=λe=>S 19 (I 2 O) (by rw[E];exact e.symm)
   rw[eZ,if_pos O]
   unfold mj
   rw[if_neg n0,if_neg n1,if_neg n2,if_neg O,if_neg O]
 have tt:∀f l,cR (tG k F (.own 16 gs.length 1) f) l=(cR (tG k F (.own 16 gs.length 1) f) l).bD (qJ (17+3*gs.length) j):=λf l=>tf (p 14 zC) (p 15 zC) (by show _=t_ (qJ _ _ 16) _ _;rw[p 16 zC]) l
 refine wpIn_mono (td (SB:={Ha q k F gs i with H:=rV q gs b j}) (small b) (λl=>tt _ l) A ⟨rfl,rfl⟩ ro n c ρ a w bs J hs V) λx a1 w1 hp=>?_
 obtain⟨rfl,s1,b4,l1,_,r1⟩:=hp
 obtain⟨b1,_,r2⟩:=r1.view l1 (by show c.G<=20;rw[J];decide) (λl hl=>hl)
 have b2:cA (c.iT ρ (hG q 20 (w8 gs.length (λj=>(aK gs j).key) b j q.ng (aK gs j).W (aK gs j).m (bi (aK gs j).L (aK gs j).G (aK gs j).C) (ae (aK gs j).T))) (rV q gs b j) (qJ (17+3*gs.length) j) w) b1 {t:=tG k F (.own 16 gs.length 1) ((i:Int)+1),nt:=86,H:=hG q 22 (w9 gs.length (λj=>(aK gs j).key) b j q.ng g.W g.m (bi g.L g.G g.C) (ae g.T)),df:=[]} a1 w1:=by
  rw[a8,bd];exact r2
 obtain⟨M,hx,_,r3⟩:=pJ (s:=Fx q k gs.length F (λj=>(aK gs j).key) b j q.ng (aK gs j).W (aK gs j).m (bi (aK gs j).L (aK gs j).G (aK gs j).C) (ae (aK gs j).T) (bi g.L g.G g.C) (ae g.T) (i:Int) false) (SB':={t:=tG k F (.own 16 gs.length 1) ((i:Int)+1),nt:=86,H:=w7 q gs b j g,df:=[]}) V hs b2 b0 (λl=>tt _ l) rfl ⟨rfl,rfl⟩
 have b3:∀l,l<gs.length->∃N,M (17+3*l)=g_ (b l,N):=λl hl=>by
  obtain⟨N,e⟩:=hb l hl
  exact⟨N,hx _ _ e⟩
 have back:∀l,l<gs.length->∀v,VR M (.addr (b l) 0) v->VR M (.ptr (17+3*l) 0 0 0) v:=λl hl v hv=>by
  obtain⟨N,e⟩:=b3 l hl
  refine oO.2 ⟨b l,N,e,?_⟩
  simpa only[VR]using hv
 have ad:(w7 q gs b j g).get 15= .cT gs.length (λj=>(aK gs j).key) (λj=> .addr (b j) 0) (g_ (j,.ptr (17+3*j) 0 0 0)):=by
  rw[eZ,if_pos O]
  unfold mj
  rw[if_neg O,if_neg O,if_neg O,if_neg O,if_neg O,dB,if_neg O,if_pos A]
 have ag:(w7 q gs b j g).get 16= .rows gs.length 1 (eW b) (.ty 89):=by
  rw[eZ,if_pos O]
  unfold mj
  rw[if_neg O,if_neg O,if_neg O,if_neg O,if_neg O,dB,if_pos A]
 have r4:=G8 (L:=16) r3.heap zC ad ag (λ_=>rfl) (λl hl=> .inr λv hv=>back l hl v hv) λl hl v hv=>back l hl v (aU.aL.1 hv).1
 have R:∀l,(((w7 q gs b j g).set 15 (.cT gs.length (λj=>(aK gs j).key) (λj=> .ptr (17+3*j) 0 0 0) m_)).set 16 (.rows gs.length 1 oe (.ty 89))).get l=if l=16 then .rows gs.length 1 oe (.ty 89)else if l=15 then .cT gs.length (λj=>(aK gs j).key) (λj=> .ptr (17+3*j) 0 0 0) m_ else if l<17+3*gs.length+2 then mj q gs b j g l else .dead:=λl=>by
  rw[i_,i_,eZ]
 have o:∀l,l<17+3*gs.length->l≠17+3*j+1->l≠17+3*j+2->yb (17+3*gs.length) j l=l:=λl h h1 h2=>by unfold yb;rw[if_neg h1,if_neg h2,if_pos h]
 have ai:yb (17+3*gs.length) j (17+3*j+1)=17+3*gs.length:=by unfold yb;rw[if_pos A]
 have aj:yb (17+3*gs.length) j (17+3*j+2)=17+3*gs.length+1:=by unfold yb;rw[if_neg O,if_pos A]
 have r:(gs.set j g).length=gs.length:=k_
 have ap:r_ 16 (yb (17+3*gs.length) j) (((w7 q gs b j g).set 15 (.cT gs.length (λj=>(aK gs j).key) (λj=> .ptr (17+3*j) 0 0 0) m_)).set 16 (.rows gs.length 1 oe (.ty 89))) (fB q (gs.set j g)):=by
  refine⟨?_,λl hl=>o l O O O,λl hl=>?_,λl=>?_,λl l' _ _ e _=>?_,λl hl=>P3 hl⟩
  ·show 16<=17+3*(gs.set j g).length;omega
  ·have hl:17+3*(gs.set j g).length<=l:=hl
   rw[r]at hl
   show 17+3*gs.length+2<=yb _ _ l
   unfold yb
   rw[if_neg O,if_neg O,if_neg O];omega
  ·rcases w6 gs.length l with h|rfl|rfl|rfl|⟨i',d,hi,u,rfl⟩|h
   ·refine .inr (.inl ?_)
    rw[lE h,o l O O O,R,if_neg O,if_neg O,if_pos O]
    unfold mj
    rw[if_neg O,if_neg O,if_neg O,if_neg O,if_neg O,dB,if_neg O,if_neg O,lE h]
    exact G9 (λj P=>o j O O O) l
   ·refine .inr (.inl ?_)
    rw[oQ,o 14 O O O,R,if_neg O,if_neg O,if_pos O]
    unfold mj
    rw[if_neg O,if_neg O,if_neg O,if_neg O,if_neg O,dB,if_neg O,if_neg O,oQ]
    exact⟨iY _ _,rfl⟩
   ·refine .inr (.inl ?_)
    rw[Ps,o 15 O O O,R,if_neg O,if_pos A]
    refine⟨r.symm,λl hl=>?_,λl hl=>⟨(o _ O O O).symm,rfl,rfl,rfl⟩,λ_ _ e=>zG⟩
    show(aK gs l).key=(aK (gs.set j g) l).key
    rw[gg P]
    by_cases h:l=j
    ·rw[if_pos h,a7,h]
    ·rw[if_neg h]
   ·refine .inr (.inl ?_)
    rw[R4,o 16 O O O,R,if_pos A]
    exact⟨r.symm,rfl,λl hl=>⟨⟨(o _ O O O).symm,rfl,rfl,rfl⟩,trivial⟩,rfl⟩
   ·refine .inr (.inl ?_)
    rw[lV (by rw[r];exact hi) u,gg P]
    by_cases a6:i'=j
    ·subst a6
     rw[if_pos A]
     match d,u with
     |0,_=>
      rw[p_,o _ O O O,R,if_neg O,if_neg O,if_pos O]
      unfold mj
      rw[if_pos A]
      exact⟨⟨⟨rfl,rfl,λi _=>jw _ _ i⟩,⟨ai.symm,rfl,rfl⟩,⟨aj.symm,rfl,rfl⟩,trivial⟩,rfl⟩
     |1,_=>
      rw[ai,R,if_neg O,if_neg O,if_pos O]
      unfold mj
      rw[if_neg O,if_neg O,if_neg O,if_pos A]
      exact⟨rfl,rfl,λi _=>kS _ _ _ _ i,rfl⟩
     |2,_=>
      rw[aj,R,if_neg O,if_neg O,if_pos O]
      unfold mj
      rw[if_neg O,if_neg O,if_neg O,if_neg O,if_pos A]
      exact⟨rfl,rfl,λi _=>jw _ _ i,rfl⟩
    ·rw[if_neg a6,o _ O O O,R,if_neg O,if_neg O,if_pos O]
     unfold mj
     rw[if_neg O,if_neg O,if_neg O,if_neg O,if_neg O,dB,if_neg O,if_neg O,lV hi u]
     exact Hb u λe=>⟨o _ O O O,o _ O O O⟩
   ·exact .inl (P3 (by rw[r];exact h))
  ·unfold yb at e
   split at e<;>split at e<;>(try split at e)<;>(try split at e)<;>(try split at e)<;>(try split at e)<;>omega
 have r5:=r4.view ap (by rw[J];decide) hE
 refine⟨rfl,_,(iU.of hx).trans (ap.ext M),⟨r3.tmp.1,λl=>?_⟩,r5,r3.df⟩
 refine VR.le _ _ _ ?_ (r3.tmp.2 l)
 show l_ _ (cR (tG k F (.own 16 gs.length 1) ((i:Int)+1)) l) (cR (tG k F (.own 16 (gs.set j g).length 1) ((i:Int)+1)) l)
 rw[r]
 exact NS (o 14 O O O) (o 15 O O O) (show l_ _ (.own 16 gs.length 1) (.own 16 gs.length 1)from⟨(o 16 O O O).symm,rfl,rfl⟩) l
def AH.Le.swap{n0 σ H H1 H2}(h:r_ n0 σ H H1)(b)(c:H2.n=H1.n)(f:∀l,l≠b->H2.get l=H1.get l)(j:H1.get b≠ .dead)(m:(H.get (σ b)).le σ (H2.get b)):r_ n0 σ H H2:=by
 have a:∀l,H2.get l≠ .dead->H1.get l≠ .dead:=Y
 refine⟨by rw[c];exact h.n,h.id,λl hl=>h.ge l (by rw[<-c];exact hl),λl=>?_,λl d k i=>h.inj l d (a l k) (a d i),λl hl=>?_⟩
 ·by_cases e:l=b
  grind
  ·rw[f l e];exact h.dF l
 ·have:H1.get l= .dead:=h.low l (by rw[<-c];exact hl)
  grind
def oS(n:Nat)(b:Nat->Nat)(a:AV)(j:Nat):List AV:=bif a_ j n then [a]else eW b j
def rW(n:Nat)(b:Nat->Nat)(j:Nat):AV:=bif a_ j n then .any else .addr (b j) 0
def xa(n:Nat)(K:Nat->List Int)(b:Nat->Nat):List (Nat×Zv):=[(15,.cT n K (λj=> .addr (b j) 0) m_),(16,.rows n 1 (eW b) (.ty 89))]
def nW(n:Nat)(K:Nat->List Int)(b:Nat->Nat)(ks:List Int)(g:Nat)(x:bj)(a:AV):List (Nat×Zv):=[(15,.cT (n+1) (cZ n K ks) (rW n b) (g_ (n,.ptr 17 0 0 0))),(17,.cells [.az g 1 (ae x.W),.own 18 1 3,.own 19 1 1] (.ty 94)),(18,.rows 1 3 (bi x.L x.G x.C) (.ty 99)),(19,.rows 1 1 (ae x.T) (.ty 3)),(20,.rows (n+1) 1 (oS n b a) (.ty 89))]
def rX{n K b l}(a:cD (xa n K b) l≠ .dead):l=15∨l=16:=z λh=>a (by
 simp only[not_or]at h
 obtain⟨c,d⟩:=h
 simp only[xa,cD,c,d,if_false])
def tg{n K b ks g x a l}(c:l≠15)(d:l≠17)(e:l≠18)(f:l≠19)(h:l≠20):cD (nW n K b ks g x a) l= .dead:=by
 simp only[nW,cD,c,d,e,f,h,if_false]
def sN(q:Query)(k n:Nat)(F:Nat->ay)(K:Nat->List Int)(b:Nat->Nat)(ks:List Int)(g:Nat)(x:bj)(a:AV)(i:Int):St:={t:=tG k F (.own 20 (n+1) 1) (i+1),nt:=86,H:=hG q 21 (nW n K b ks g x a),df:=[]}
def FC{q:Query}{k n:Nat}{F:Nat->ay}{K:Nat->List Int}{b:Nat->Nat}{ks:List Int}{g:Nat}{x:bj}{i:Int}{d:St}(h:St.Le 17 d (sN q k n F K b ks g x .any i))(c:C4 n d):St.Le 17 d (sN q k n F K b ks g x (.ptr 17 0 0 0) i):=by
 obtain⟨σ,k1,k2,D,I⟩:=h.le
 have nd:∀a l,l<15->cD (nW n K b ks g x a) l= .dead:=λa l hl=>tg O O O O O
 have p:∀a,(hG q 21 (nW n K b ks g x a)).get 20= .rows (n+1) 1 (oS n b a) (.ty 89):=λa=>by
  rfl
 have u:∀a,(hG q 21 (nW n K b ks g x a)).get 15= .cT (n+1) (cZ n K ks) (rW n b) (g_ (n,.ptr 17 0 0 0)):=λa=>by
  rfl
 have E:l_ σ (cR d.t 6) (.own 20 (n+1) 1):=by
  have e:cR (tG k F (.own 20 (n+1) 1) (i+1)) 6= .own 20 (n+1) 1:=by unfold tG;rw[fV];rfl
  rw[<-e];exact Tr.qz D 6
 refine⟨σ,k1.swap 20 A (λl hl=>?_) ?_ ?_,k2,D,I⟩
 ·show(hG q 21 _).get l=(hG q 21 _).get l
  rw[eX (nd _),eX (nd _)]
  by_cases h:l<14
  grind
  ·rw[if_neg h,if_neg h]
   by_cases r:l=14
   grind
   ·rw[if_neg r,if_neg r]
    simp only[nW,cD,hl,if_false]
 ·show(hG q 21 _).get 20≠_
  grind
 ·show(d.H.get (σ 20)).le σ ((hG q 21 _).get 20)
  have j:=k1.dF 20
  have o:=k1.dF 15
  rw[show(sN q k n F K b ks g x .any i).H.get 20=_ from p .any]at j
  rw[show(sN q k n F K b ks g x .any i).H.get 15=_ from u .any,k1.id 15 O]at o
  rw[p]
  unfold C4 at c
  cases J:cR d.t 6 with
  |own L m e=>
   rw[J]at c E
   obtain⟨rfl,_,_⟩:=E
   cases v:d.H.get (σ 20)with
   |rows X Y f ac=>
    simp only[v]at c
    rw[v]at j
    cases w:d.H.get 15 with
    |cT Z KK M foc=>
     simp only[w]at c
     rw[w]at o
     cases foc with
     |none=>exact c.elim
     |some N=>
      obtain⟨j0,a0⟩:=N
      cases a0 with
      |ptr g0 P Q z0=>
       have R:f n=[.ptr g0 P Q z0]:=c
       rcases o with s|⟨_,_,_,s⟩|⟨_,s⟩
       ·cases s
       ·obtain⟨a1,f1,S⟩:=s n (.ptr 17 0 0 0) rfl
        cases f1
        rcases j with y|⟨T,U,C,V⟩|⟨_,y⟩
        ·cases y
        ·refine⟨T,U,λG hi=>?_,V⟩
         have C:=C G hi
         unfold oS at C⊢
         cases W:a_ G n with
         |false=>grind
         |true=>
          have:=dE W
          subst this
          rw[R]
          exact⟨S,trivial⟩
        ·exact absurd y (by show¬ (n+1=0);omega)
       ·exact s.elim
      |_=>exact c.elim
    |_=>simp only[w]at c
   |_=>simp only[v]at c
  |_=>grind
def lK(N l:Nat):Nat:=if l<17 then l else N+(l-17)
def C7(N l:Nat):Nat:=if l=16 then N+3 else if l<N+3 then l else l+1
def uk(q:Query)(gs:List bj)(b:Nat->Nat):AH:=((fB q gs).set 15 (.cT gs.length (λj=>(aK gs j).key) (λj=> .addr (b j) 0) m_)).set 16 (.rows gs.length 1 (eW b) (.ty 89))
def k8(q)(gs)(b)(l):(uk q gs b).get l=if l=16 then .rows gs.length 1 (eW b) (.ty 89)else if l=15 then .cT gs.length (λj=>(aK gs j).key) (λj=> .addr (b j) 0) m_ else(fB q gs).get l:=by
 unfold uk;rw[i_,i_]
def oT(q:Query)(gs:List bj)(b:Nat->Nat)(ks:List Int)(x:bj)(l:Nat):Zv :=
 if l=15 then .cT (gs.length+1) (cZ gs.length (λj=>(aK gs j).key) ks) (rW gs.length b) (g_ (gs.length,.ptr (17+3*gs.length) 0 0 0))else if l=16 then .dead else if l=17+3*gs.length then .cells [.az q.ng 1 (ae x.W),.own (17+3*gs.length+1) 1 3,.own (17+3*gs.length+2) 1 1] (.ty 94)else if l=17+3*gs.length+1 then .rows 1 3 (bi x.L x.G x.C) (.ty 99)else if l=17+3*gs.length+2 then .rows 1 1 (ae x.T) (.ty 3)
  else if l=17+3*gs.length+3 then .rows (gs.length+1) 1 (oS gs.length b (.ptr (17+3*gs.length) 0 0 0)) (.ty 89)else(uk q gs b).get l
def xb(q:Query)(gs:List bj)(b:Nat->Nat)(ks:List Int)(x:bj):AH:=v_ (17+3*gs.length+4) (oT q gs b ks x)
def ic(q)(gs)(b)(ks)(x)(l):(xb q gs b ks x).get l=if l<17+3*gs.length+4 then oT q gs b ks x l else .dead:=w_ _ _ _
def mW{q gs b ks x l}(h:l<17+3*gs.length)(a:l≠15)(c:l≠16):oT q gs b ks x l=(fB q gs).get l:=by
 unfold oT
 rw[if_neg a,if_neg c,if_neg O,if_neg O,if_neg O,if_neg O,k8,if_neg c,if_neg a]
def gh(gs)(x)(l):aK (gs++[x]) l=if l=gs.length then x else aK gs l:=by
 unfold aK
 grind
def JG(σ)(n)(b)(l):(λi=>bt.bD σ (oS n b (.ptr l 0 0 0) i))=oS n b (.ptr (σ l) 0 0 0):=funext λi=>by
 unfold oS
 cases a_ i n<;>rfl
def JH(σ)(n)(b):(λi=>(rW n b i).bD σ)=rW n b:=funext λi=>by
 unfold rW
 cases a_ i n<;>rfl
def qK{i n:Nat}(h:i≠n):a_ i n=false:=by
 cases a:a_ i n with
 |false=>rfl
 |true=>simp_all
set_option maxHeartbeats 4000000 in
def NU(q:Query)(k:Nat)(F:Nat->ay)(gs:List bj)(i:Nat)(x:bj)(kn:List (aC PP II))(hm:x.m=1)
  (small:∀b,kg kn 40 4001 17 {t:=tG k F (.own 16 gs.length 1) (i:Int),nt:=86,H:=hG q 17 (xa gs.length (λj=>(aK gs j).key) b),df:=[]} (sN q k gs.length F (λj=>(aK gs j).key) b x.key q.ng x .any (i:Int)) (C4 gs.length)):
  wZ q k F gs (gs++[x]) i:=by
 intro ro n c ρ a w ad C hE hr
 obtain⟨b,hb,J⟩:=C6 (n:=gs.length) (K:=λj=>(aK gs j).key) hr.heap (Ps q gs) (R4 q gs)
 have r0:Rel c ρ (uk q gs b) w:=J m_ (by rintro j' a e;cases e)
 have M:cA c ρ {Ha q k F gs i with H:=uk q gs b} a w:=⟨hr.tmp,r0,hr.df⟩
 have f:∀l,l<17->lK (17+3*gs.length) l=l:=λl h=>by unfold lK;rw[if_pos h]
 have r:∀l,17<=l->lK (17+3*gs.length) l=17+3*gs.length+(l-17):=λl h=>by unfold lK;rw[if_neg O]
 have nd:∀l,l<15->cD (xa gs.length (λj=>(aK gs j).key) b) l= .dead:=λl hl=>z λp=>by have:=rX p;omega
 have P:∀l,l<15->cD (nW gs.length (λj=>(aK gs j).key) b x.key q.ng x (.ptr 17 0 0 0)) l= .dead:=λl hl=>tg O O O O O
 have hs:Sub c.G (lK (17+3*gs.length)) (hG q 17 (xa gs.length (λj=>(aK gs j).key) b)) (uk q gs b):=by
  rw[C]
  refine A4 zC nd (λl hl=>?_) (λl h=>?_) ?_ (λl h=>f l O) (λl h=>?_) (λl h=>r l h) (λl hl p=>?_) λl l' h h' e=>?_
  ·exact z λp=>by have:=rX p;omega
  ·rw[k8,if_neg O,if_neg O,lE h]
  ·rw[k8,if_neg O,if_neg O,oQ]
  ·rw[f l h];show l<17+3*gs.length;omega
  ·rcases rX p with rfl|rfl
   ·rw[f 15 zC,k8,if_neg O,if_pos A];rfl
   ·rw[f 16 zC,k8,if_pos A];rfl
  ·rw[f l h,f l' h']at e;exact e
 have ag:Eb (lK (17+3*gs.length)) (hG q 17 (xa gs.length (λj=>(aK gs j).key) b)) (hG q 21 (nW gs.length (λj=>(aK gs j).key) b x.key q.ng x (.ptr 17 0 0 0))) (uk q gs b) (xb q gs b x.key x):=by
  refine⟨?_,λl p=>?_,λl hl=>?_,λl hl Q=>?_⟩
  ·show 17+3*gs.length+4=17+3*gs.length+(21-17);omega
  ·rw[eX nd]at p
   rw[eX P]
   by_cases h:l<14
   ·rw[if_pos h,f l O,Fy λj hj=>f j O,ic,if_pos O,mW O O O,lE h]
   ·rw[if_neg h]at p⊢
    by_cases R:l=14
    ·subst R
     rw[if_pos A,f 14 O,ic,if_pos O,mW O O O,oQ];rfl
    ·rw[if_neg R]at p⊢
     rcases rX p with rfl|rfl
     ·rw[f 15 zC,ic,if_pos O]
      show oT _ _ _ _ _ 15=Zv.cT _ _ (λi=>(rW gs.length b i).bD _) (g_ (gs.length,.ptr (lK (17+3*gs.length) 17) 0 0 0))
      rw[JH]
      unfold oT
      rw[if_pos A];rfl
     ·rw[f 16 zC,ic,if_pos O]
      unfold oT
      rw[if_neg O,if_pos A];rfl
  ·have hl:17<=l:=hl
   rw[eX P,if_neg O,if_neg O,r l hl,ic]
   by_cases S:l=17
   ·subst S
    rw[if_pos O]
    unfold oT
    rw[if_neg O,if_neg O,if_pos O];rfl
   ·by_cases T:l=18
    ·subst T
     rw[if_pos O]
     unfold oT
     rw[if_neg O,if_neg O,if_neg O,if_pos O];rfl
    ·by_cases U:l=19
     ·subst U
      rw[if_pos O]
      unfold oT
      rw[if_neg O,if_neg O,if_neg O,if_neg O,if_pos O];rfl
     ·by_cases V:l=20
      ·subst V
       rw[if_pos O]
       show _=Zv.rows _ _ (λi=>bt.bD _ (oS gs.length b (.ptr 17 0 0 0) i)) _
       rw[JG]
       unfold oT
       rw[if_neg O,if_neg O,if_neg O,if_neg O,if_neg O,if_pos O];rfl
      ·rw[if_neg O,tg O S T U V];rfl
  ·have hl:l<17+3*gs.length:=hl
   have W:l≠15:=λe=>Q 15 (by rw[eX nd,if_neg O,if_neg O];exactλe=>zG) (by rw[f 15 O];exact e.symm)
   have X:l≠16:=λe=>Q 16 (by rw[eX nd,if_neg O,if_neg O];exactλe=>zG) (by rw[f 16 O];exact e.symm)
   rw[ic,if_pos O,mW hl W X,k8,if_neg X,if_neg W]
 refine wpIn_mono (td (SB:={Ha q k F gs i with H:=uk q gs b}) (small b) (λl=>tf (f 14 zC) (f 15 zC) (by show _=t_ (lK _ 16) _ _;rw[f 16 zC]) l) A ⟨rfl,rfl⟩ ro n c ρ a w ad C hs M) λy a1 w1 hp=>?_
 obtain⟨rfl,s1,aj,l1,lp,r1⟩:=hp
 obtain⟨ap,_,r2⟩:=r1.view (FC l1 lp) (by show c.G<=17;rw[C];decide) (λl hl=>hl)
 obtain⟨I,hx,_,r3⟩:=pJ (s:={t:=tG k F (.own 16 gs.length 1) (i:Int),nt:=86,H:=hG q 17 (xa gs.length (λj=>(aK gs j).key) b),df:=[]}) (SB':={t:=tG k F (.own (17+3*gs.length+3) (gs.length+1) 1) ((i:Int)+1),nt:=86,H:=xb q gs b x.key x,df:=[]}) M hs r2 ag (λl=>tf (f 14 zC) (f 15 zC) (by show _=t_ (lK _ 20) _ _;rw[r 20 zC]) l) A ⟨rfl,rfl⟩
 have back:∀l,l<gs.length->∀v,VR I (.addr (b l) 0) v->VR I (.ptr (17+3*l) 0 0 0) v:=λl hl v u=>by
  obtain⟨N,e⟩:=hb l hl
  refine oO.2 ⟨b l,N,hx _ _ e,?_⟩
  simpa only[VR]using u
 have Y:(xb q gs b x.key x).get 15= .cT (gs.length+1) (cZ gs.length (λj=>(aK gs j).key) x.key) (rW gs.length b) (g_ (gs.length,.ptr (17+3*gs.length) 0 0 0)):=by
  rw[ic,if_pos O]
  unfold oT
  rw[if_pos A]
 have ai:(xb q gs b x.key x).get (17+3*gs.length+3)= .rows (gs.length+1) 1 (oS gs.length b (.ptr (17+3*gs.length) 0 0 0)) (.ty 89):=by
  rw[ic,if_pos O]
  unfold oT
  rw[if_neg O,if_neg O,if_neg O,if_neg O,if_neg O,if_pos A]
 have r4:=G8 (L:=17+3*gs.length+3) r3.heap O Y ai (λl=>by unfold oS;cases a_ l gs.length<;>rfl) (λl hl=>by
   by_cases e:l=gs.length
   ·exact .inl (by rw[e])
   ·refine .inr λv u=>back l O v ?_
    unfold rW at u
    rw[qK e]at u;exact u) λl hl v u=>by
   unfold oS at u
   by_cases e:l=gs.length
   ·subst e
    rw[ni]at u;exact(aU.aL.1 u).1
   ·rw[qK e]at u
    exact back l O v (aU.aL.1 u).1
 have D:∀l,(((xb q gs b x.key x).set 15 (.cT (gs.length+1) (cZ gs.length (λj=>(aK gs j).key) x.key) (λj=> .ptr (17+3*j) 0 0 0) m_)).set (17+3*gs.length+3) (.rows (gs.length+1) 1 oe (.ty 89))).get l=if l=17+3*gs.length+3 then .rows (gs.length+1) 1 oe (.ty 89)else if l=15 then .cT (gs.length+1) (cZ gs.length (λj=>(aK gs j).key) x.key) (λj=> .ptr (17+3*j) 0 0 0) m_ else if l<17+3*gs.length+4 then oT q gs b x.key x l else .dead:=λl=>by
  rw[i_,i_,ic]
 have g:∀l,l<17+3*gs.length+3->l≠16->C7 (17+3*gs.length) l=l:=λl h h1=>by unfold C7;rw[if_neg h1,if_pos h]
 have E:C7 (17+3*gs.length) 16=17+3*gs.length+3:=by unfold C7;rw[if_pos A]
 have o:(gs++[x]).length=gs.length+1:=zA
 have Z:r_ 16 (C7 (17+3*gs.length)) (((xb q gs b x.key x).set 15 (.cT (gs.length+1) (cZ gs.length (λj=>(aK gs j).key) x.key) (λj=> .ptr (17+3*j) 0 0 0) m_)).set (17+3*gs.length+3) (.rows (gs.length+1) 1 oe (.ty 89))) (fB q (gs++[x])):=by
  refine⟨?_,λl hl=>g l O O,λl hl=>?_,λl=>?_,λl l' _ _ e _=>?_,λl hl=>P3 hl⟩
  ·show 16<=17+3*(gs++[x]).length;omega
  ·have hl:17+3*(gs++[x]).length<=l:=hl
   rw[o]at hl
   show 17+3*gs.length+4<=C7 _ l
   unfold C7
   rw[if_neg O,if_neg O];omega
  ·rcases w6 (gs.length+1) l with h|rfl|rfl|rfl|⟨i',d,hi,p,rfl⟩|h
   ·refine .inr (.inl ?_)
    rw[lE h,g l O O,D,if_neg O,if_neg O,if_pos O,mW O O O,lE h]
    exact G9 (λj hj=>g j O O) l
   ·refine .inr (.inl ?_)
    rw[oQ,g 14 O O,D,if_neg O,if_neg O,if_pos O,mW O O O,oQ]
    exact⟨iY _ _,rfl⟩
   ·refine .inr (.inl ?_)
    rw[Ps,g 15 O O,D,if_neg O,if_pos A]
    refine⟨o.symm,λl hl=>?_,λl hl=>⟨(g _ O O).symm,rfl,rfl,rfl⟩,λ_ _ e=>zG⟩
    show cZ _ _ _ l=(aK (gs++[x]) l).key
    rw[gh]
    unfold cZ
    by_cases h:l=gs.length
    ·rw[if_pos h,h,ni];rfl
    ·rw[if_neg h,qK h];rfl
   ·refine .inr (.inl ?_)
    rw[R4,E,D,if_pos A]
    exact⟨o.symm,rfl,λl hl=>⟨⟨(g _ O O).symm,rfl,rfl,rfl⟩,trivial⟩,rfl⟩
   ·refine .inr (.inl ?_)
    rw[lV (by rw[o];exact hi) p,gh]
    by_cases ab:i'=gs.length
    ·subst ab
     rw[if_pos A]
     match d,p with
     |0,_=>
      rw[p_,g _ O O,D,if_neg O,if_neg O,if_pos O]
      unfold oT
      rw[if_neg O,if_neg O,if_pos (p_ _)]
      exact⟨⟨⟨rfl,rfl,λi _=>jw _ _ i⟩,⟨(g _ O O).symm,hm.symm,rfl⟩,⟨(g _ O O).symm,hm.symm,rfl⟩,trivial⟩,rfl⟩
     |1,_=>
      rw[g _ O O,D,if_neg O,if_neg O,if_pos O]
      unfold oT
      rw[if_neg O,if_neg O,if_neg O,if_pos A]
      exact⟨hm.symm,rfl,λi _=>kS _ _ _ _ i,rfl⟩
     |2,_=>
      rw[g _ O O,D,if_neg O,if_neg O,if_pos O]
      unfold oT
      rw[if_neg O,if_neg O,if_neg O,if_neg O,if_pos A]
      exact⟨hm.symm,rfl,λi _=>jw _ _ i,rfl⟩
    ·rw[if_neg ab,g _ O O,D,if_neg O,if_neg O,if_pos O,mW O O O,lV O p]
     exact Hb p λe=>⟨g _ O O,g _ O O⟩
   ·exact .inl (P3 (by rw[o];exact h))
  ·unfold C7 at e
   split at e<;>split at e<;>(try split at e)<;>(try split at e)<;>omega
 have r5:=r4.view Z (by rw[C];decide) hE
 refine⟨rfl,_,(iU.of hx).trans (Z.ext I),⟨r3.tmp.1,λl=>?_⟩,r5,r3.df⟩
 refine VR.le _ _ _ ?_ (r3.tmp.2 l)
 show l_ _ (cR (tG k F (.own (17+3*gs.length+3) (gs.length+1) 1) ((i:Int)+1)) l) (cR (tG k F (.own 16 (gs++[x]).length 1) ((i:Int)+1)) l)
 rw[o]
 exact NS (g 14 O O) (g 15 O O) (show l_ _ (.own (17+3*gs.length+3) (gs.length+1) 1) (.own 16 (gs.length+1) 1)from⟨E.symm,rfl,rfl⟩) l
def km(q:Query)(gs:List bj)(i:Nat)(x:ay):List bj :=
 bif gk q x then
  match jD gs.length (λj=>(aK gs j).key) (FA q x)with
  |some j=>gs.set j {key:=(aK gs j).key,W:=(aK gs j).W,m:=(aK gs j).m+1,L:=gV (aK gs j).L (aK gs j).m (kR q x),G:=gV (aK gs j).G (aK gs j).m (lJ q x),C:=uj (aK gs j).C (aK gs j).m (Br q x),T:=gV (aK gs j).T (aK gs j).m (i:Int)}
  |none=>gs++[{key:=FA q x,W:=bc q x,m:=1,L:=λ_=>kR q x,G:=λ_=>lJ q x,C:=λ_=>Br q x,T:=λ_=>(i:Int)}]
 else gs
def aV(q:Query)(F:Nat->ay):Nat->List bj
 |0=>[]
 |i+1=>km q (aV q F i) i (F i)
def lF{n K ks j}(h:jD n K ks=g_ j):j<n/\K j=ks:=by
 unfold jD at h
 grind
def xc{n K ks}(h:jD n K ks=m_):∀j,j<n->K j≠ks:=λj a e=>by
 unfold jD at h
 grind
def FD{n K ks}(h:jD n K ks=m_):jD (n+1) (cZ n K ks) ks=g_ n:=by
 unfold jD
 rw[List.range_succ,List.find?_append]
 have:(b_ n).find? (λi=>cZ n K ks i==ks)=m_:=by
  rw[List.find?_eq_none]
  intro i hi
  have hi:=List.mem_range.1 hi
  unfold cZ
  rw[qK O]
  simpa using xc h i hi
 rw[this]
 simp[cZ]
structure Hc (gs:List bj) (i:Nat):Prop where
 len:gs.length<=i
 keys:∀a,a<gs.length->(aK gs a).key.length=3
 ms:∀a,a<gs.length->(aK gs a).m<=i
def lG(q)(F):∀i,Hc (aV q F i) i
 |0=>⟨dw _,λj a=>absurd a ZE,λj a=>absurd a ZE⟩
 |i+1=>by
  obtain⟨c,b,d⟩:=lG q F i
  show Hc (km q (aV q F i) i (F i)) (i+1)
  unfold km
  cases gk q (F i)with
  |false=>exact⟨Y,b,Y⟩
  |true=>
   simp only[cond_true]
   split
   ·rename_i j a
    obtain⟨a,_⟩:=lF a
    refine⟨Y,λl hl=>?_,λl hl=>?_⟩
    ·rw[k_]at hl
     rw[gg a]
     grind
    ·rw[k_]at hl
     rw[gg a]
     grind
   ·refine⟨by simp;omega,λl hl=>?_,λl hl=>?_⟩
    ·rw[gh]
     by_cases h:l=(aV q F i).length
     ·rw[if_pos h];rfl
     grind
    ·rw[gh]
     grind
def C8{n K}(h:∀j,j<n->(K j).length=3):ob n K 3=true:=by
 unfold ob
 simp_all
def Xs{q}(h:ct q=true):q.ng<=3:=by
 have:=(mY h).2.2
 unfold eU at this
 grind
def JI(q)(k)(F)(i)(hi:i<k)(d:k<=1000000)(a:ct q=true)(e:bB (F i)=true):wZ q k F (aV q F i) (aV q F (i+1)) i:=by
 show wZ q k F (aV q F i) (km q (aV q F i) i (F i)) i
 obtain⟨r,l,n⟩:=lG q F i
 unfold km
 cases hp:gk q (F i)with
 |false=>exact JC q k F _ i hi d a e hp
 |true=>
  simp only[cond_true]
  have m:=C8 l
  split
  ·rename_i j c
   obtain⟨f,_⟩:=lF c
   have g:uI (aV q F i).length (λj=>(aK (aV q F i) j).key) (FA q (F i)) j=true:=by unfold uI;rw[c];exact ni j
   have s:=n j f
   have a1:=Bool.and_eq_true_iff.2 ⟨m,g⟩
   refine NT q k F _ i j _ [jW q,qj q q.ng] f A A A λb=>?_
   exact JE q k _ F _ b j _ _ _ _ _ _ i hi d O a (Xs a) e hp a1
  ·rename_i c
   have g:Kv (aV q F i).length (λj=>(aK (aV q F i) j).key) (FA q (F i))=true:=by unfold Kv;rw[c]
   have o:uI ((aV q F i).length+1) (cZ (aV q F i).length (λj=>(aK (aV q F i) j).key) (FA q (F i))) (FA q (F i)) (aV q F i).length=true:=by unfold uI;rw[FD c];exact ni _
   have p:ob ((aV q F i).length+1) (cZ (aV q F i).length (λj=>(aK (aV q F i) j).key) (FA q (F i))) 3=true:=C8 λj f=>by
    unfold cZ
    by_cases h:j=(aV q F i).length
    ·rw[h,ni];rfl
    ·rw[qK h];exact l j O
   have a1:=Bool.and_eq_true_iff.2 ⟨m,g⟩
   have a2:=Bool.and_eq_true_iff.2 ⟨p,o⟩
   refine NU q k F _ i _ [jW q,qj q q.ng] rfl λb=>?_
   exact JF q k _ F _ b i hi d O a (Xs a) e hp a1 a2
abbrev XZ(ks:List (aC PP II))(f key n0:Nat)(s a:St):Prop :=
 uA ks (mG PP II []) 1000 false (.code (aD II f key)) s {n:=λ_=>False,x:=λi b=>i=0/\mF n0 b a True,g:=λ_ _=>False,r:=λ_=>False,p:=λ_ _=>False}
def QW(q)(k)(F)(n)(i){b}(c:b=[AV.az q.nw 3 (au q.C),AV.az q.ng 1 (aR q.G),u_ f_ q.a,u_ f_ q.fl,AV.str q.nu,AV.str q.de,u_ f_ q.top]):(XZ [jW q,qj q 0] 40 4001 17 (ui q k F 0 0 0 (.own 16 n 1) i false) (ui q k F 0 0 0 (.own 16 n 1) i false))=(ah (h_ (i<e_ k)) (aa (h_ (0<=i)&&h_ (i<e_ k)) (aa (qT q b&&ct q&&bB (F i.toNat)) (ah (!gk q (F i.toNat)) (aa (aN f_ (i+1)) False) (aa (qT q b&&ct q&&bB (F i.toNat)&&a_ q.ng 0) False)))) (0=0/\zyN q.nw (zyR q.nw (au q.C) (zyN q.ng (zyR q.ng (aR q.G) (zyI q.a (zyI q.fl (zyB q.nu (zyB q.de (zyI q.top (zyB [48] (zyB [49] (zyR 5 aA (zyN k ((an k (λi=>aF (F i)) λi=>aF (F i))/\zyI i (zyI (e_ k) (zyN n True))))))))))))))))):=by subst_vars;kernel_rfl
def JJ(q)(k)(F)(n i)(hi:k<=i):XZ [jW q,qj q 0] 40 4001 17 (ui q k F 0 0 0 (.own 16 n 1) (i:Int) false) (ui q k F 0 0 0 (.own 16 n 1) (i:Int) false):=by
 rw[QW _ _ _ _ _ A]
 have fl:=gU k F
 have a:e_ k=(k:Int):=rfl
 refine Zg O (λ_=>?_)
 repeat' (first|with_reducible refine Zf A ?_|with_reducible refine YG A ?_|with_reducible refine Zi A ?_|with_reducible refine And.intro ?_ ?_|with_reducible exact bC _ _|with_reducible exact bO _ _|with_reducible exact aZ|grind|simp|rfl)
section
def qL(g:Nat)(x:bj):List AV:=[.az g 1 (ae x.W),.az x.m 3 (bi x.L x.G x.C),.az x.m 1 (ae x.T)]
theorem JK(W)(n):((b_ n).all λi=>bt.free (ae W i))=true:=List.all_eq_true.2 λ_ _=>rfl
theorem FE(L G)(C)(n):((b_ n).all λi=>bt.free (bi L G C i))=true:=List.all_eq_true.2 λ_ _=>rfl
section
variable {R:Type} (X:RI R)
theorem QX{d H H1 l k e j cs ac}(K)(b:l6 H l=g_ H1)(c:H1.get l= .cells cs ac):qC X (d+1) (.ptr l k e j) H K=jK X d cs H1 λa H2=>K (.fc a (k*e+j)) H2:=by
 simp only[qC]
 grind
theorem A6{d H H1 l n m e f ac}(K)(a:l6 H l=g_ H1)(b:H1.get l= .rows n e f ac):qC X (d+1) (.own l m e) H K=X.ak (((b_ n).all λi=>bt.free (f i))&&h_ (m<=n)) (K (.az m e f) H1):=by
 simp only[qC]
 grind
theorem Ux{d H n e f}(K):qC X (d+1) (.az n e f) H K=K (.az n e f) H:=by
 simp only[qC]
theorem th{d H a cs}(K):jK X (d+1) (a::cs) H K=qC X d a H λx H1=>jK X d cs H1 λb H2=>K (x::b) H2:=by
 simp only[jK]
theorem NW{d H}(K):jK X (d+1) [] H K=K [] H:=by
 simp only[jK]
end
theorem JL{H H1 H2 a l l1 l2 g m w f s a0 a1 a2}{d:Nat}(b:l6 H l=g_ H1)(c:H1.get l= .cells [.az g 1 w,.own l1 m 3,.own l2 m 1] a0)(e:l6 H1 l1=g_ H2)(g1:H2.get l1= .rows m 3 f a1)(j:l6 H2 l2=g_ a)(g2:a.get l2= .rows m 1 s a2)
  (n:((b_ m).all λi=>bt.free (f i))=true) (o:((b_ m).all λi=>bt.free (s i))=true):j4 (.ptr l 0 0 0) H (.fc [.az g 1 w,.az m 3 f,.az m 1 s] 0) a:=by
 have h:qC RI.jY (d+6) (.ptr l 0 0 0) H (λa' H'=>a'= .fc [.az g 1 w,.az m 3 f,.az m 1 s] 0/\H'=a):=by
  rw[QX RI.jY _ b c,th,Ux,th,A6 RI.jY _ e g1]
  refine Ze Y ?_
  rw[th,A6 RI.jY _ j g2]
  refine Ze Y ?_
  rw[NW]
  exact⟨rfl,rfl⟩
 obtain⟨a',H',⟨rfl,rfl⟩,k⟩:=lm (sem:=id) RI.dJ (d+6) (.ptr l 0 0 0) H _ h
 exact k
theorem NX{H l g x}(a:H.get l=lU x g l 0)(b:H.get (l+1)=lU x g l 1)(c:H.get (l+2)=lU x g l 2):
  j4 (.ptr l 0 0 0) H (.fc (qL g x) 0) (((H.set l (.cells [.az g 1 (ae x.W),.own (l+1) x.m 3,.own (l+2) x.m 1] .ro)).set (l+1) (.rows x.m 3 (bi x.L x.G x.C) .ro)).set (l+2) (.rows x.m 1 (ae x.T) .ro)):=by
 refine JL (d:=0) (H1:=H.set l (.cells [.az g 1 (ae x.W),.own (l+1) x.m 3,.own (l+2) x.m 1] .ro)) (H2:=(H.set l (.cells [.az g 1 (ae x.W),.own (l+1) x.m 3,.own (l+2) x.m 1] .ro)).set (l+1) (.rows x.m 3 (bi x.L x.G x.C) .ro)) ?_ (n_ _ _ _) ?_ (n_ _ _ _) ?_ (n_ _ _ _) (FE _ _ _ _) (JK _ _)
 ·unfold l6;rw[a];rfl
 ·unfold l6;rw[i_,if_neg O,b];rfl
 ·unfold l6;rw[i_,if_neg O,i_,if_neg O,c];rfl
end
end
end Go.Sx
