/- The proof of a statement of the seat, part 41. -/
import Derived.Test.YtleifmkjbmhlpaaGreatDoorX40
set_option linter.all false
set_option linter.defProp false
set_option maxRecDepth 1000000
namespace Go.Sx
open Go
open Nat renaming blt->M,beq->a_,add_zero->p_
open Classical renaming byContradiction->z
open List renaming range->b_,take->c_,drop->d_,length_set->k_
open Int renaming ofNat->e_,toNat->q_
open Go.IntKind renaming i64->f_
open Option renaming some->g_,none->m_
open Decidable renaming decide->h_
open AH renaming bk->i_,get_set_same->n_,Le->r_,get->s_,Gw->v_,vS->w_
open Tr renaming ofList->j_
open AV renaming le->l_,own->t_,int->u_
noncomputable section
def cK:List (Nat×aae)->Nat->aae
 |[],_=> .dead
 |(i,b)::l,x=>if x=i then b else cK l x
def lm(n):∀(a)(x),s_ {n:=n,t:=j_ a} x=cK a x
 |[],x=>rfl
 |(i,b)::l,x=>by
  have c:=lm n l x;unfold s_ at c⊢;simp only[j_,Tr.bk,cK]
  grind
def vU:List (Nat×AV)->Nat->AV
 |[],_=> .any
 |(i,b)::l,x=>if x=i then b else vU l x
def gQ:∀(a)(x),cR (j_ a) x=vU a x
 |[],x=>rfl
 |(i,b)::l,x=>by
  have c:=gQ l x;unfold cR at c⊢;simp only[j_,Tr.bk,vU]
  grind
def Th(l):HR.get l=cK [(0,.cells [.ae 5 2 aC] .ro),(1,.cells [.str [48],.str [49]] .ro),(3,.cells [.map (g_ 13)] .ro),(6,.cells dS (.ex 20)),(13,.map oW)] l:=lm _ _ _
def Au(a):∀(ls)(x),cK (ls++a) x=if x∈ls.map (·.1)then cK ls x else cK a x
 |[],x=>by simp[cK]
 |(i,b)::l,x=>by
  simp only[List.cons_append,cK,List.map_cons,List.mem_cons];by_cases h:x=i
  ·simp[h]
  ·simp only[h,false_or,if_false];exact Au a l x
def fC{q n b}(c:∀x,x<15->cK b x= .dead)(l):(hG q n b).get l=if l<14 then HR.get l else if l=14 then .cells (aZ q) (.ty 34)else cK b l:=by
 show s_ {n:=n,t:=j_ _} l=_;rw[lm,Th,Au];show(if l∈[0,1,3,6,13]then _ else _)=_;by_cases hm:l∈[0,1,3,6,13]
 grind
 ·rw[if_neg hm];show(if l=14 then _ else cK b l)=_;by_cases a:l<14
  ·rw[if_pos a,if_neg O,c l O];simp at hm;simp[cK,hm]
  ·rw[if_neg a]
def Jw{σ}(h:∀j,j<14->σ j=j)(l):(HR.get l).bx σ=HR.get l:=by
 rw[zz];by_cases a:l=0
 ·rw[if_pos a];rfl
 ·rw[if_neg a];by_cases b:l=1
  ·rw[if_pos b];rfl
  ·rw[if_neg b];by_cases c:l=3
   ·rw[if_pos c];show aae.cells [.map (g_ (σ 13))] .ro=_;rw[h 13 zC]
   ·rw[if_neg c];by_cases d:l=6
    ·rw[if_pos d];rfl
    ·rw[if_neg d];by_cases I2:l=13
     ·rw[if_pos I2];rfl
     ·rw[if_neg I2];rfl
def Lh{σ}(h:∀j,j<14->σ j=j)(l):(HR.get l).le σ (HR.get l):=by
 rw[zz];by_cases a:l=0
 ·rw[if_pos a];exact⟨⟨⟨rfl,rfl,λi hi=>bV i hi _⟩,trivial⟩,trivial⟩
 ·rw[if_neg a];by_cases b:l=1
  ·rw[if_pos b];exact⟨⟨rfl,rfl,trivial⟩,trivial⟩
  ·rw[if_neg b];by_cases c:l=3
   ·rw[if_pos c];exact⟨⟨(h 13 zC).symm,trivial⟩,trivial⟩
   ·rw[if_neg c];by_cases d:l=6
    ·rw[if_pos d];exact⟨vK _,rfl⟩
    ·rw[if_neg d];by_cases I2:l=13
     ·rw[if_pos I2];refine⟨rfl,?_,?_⟩
      ·simp[iE,oW,bj.le,l_]
      ·simp[iE,oW,bj.le,l_]
     ·rw[if_neg I2];exact trivial
def D9{q n0 a H σ}(s:15<=n0)(b:∀x,x<15->cK a x= .dead)(c:∀x,n0<=x->cK a x= .dead)(t:∀l,l<14->H.get l=HR.get l)(f:H.get 14= .cells (aZ q) (.ty 34))(hid:∀l,l<15->σ l=l)
  (i:∀l,l<n0->σ l<H.n) (k:∀l,n0<=l->σ l=H.n+(l-n0)) (m:∀l,15<=l->cK a l≠ .dead->H.get (σ l)=(cK a l).bx σ) (o:∀l d,l<n0->d<n0->σ l=σ d->l=d):Sub II.G σ (hG q n0 a) H where
 lt:=i
 ge:=k
 same l p:=by
  rw[fC b]at p⊢;by_cases h:l<14
  ·rw[if_pos h,hid l O,t l h,Jw λj u=>hid j O]
  ·rw[if_neg h]at p⊢;by_cases e:l=14
   ·subst e;rw[if_pos A,hid 14 O,f];rfl
   grind
 inj l d h1 v e:=by
  grind
 eZ g r:=by have r:g<12:=r;exact⟨Nat.lt_of_lt_of_le (O:g<15) s,hid g O⟩
 low l hl:=by have hl:n0<=l:=hl;rw[fC b,if_neg O,if_neg O];exact c l hl
structure bu where
 key:List Int
 W:Nat->Int
 m:Nat
 L:Nat->Int
 G:Nat->Int
 C:Nat->Bool
 T:Nat->Int
 deriving Inhabited
def aG(gs:List bu)(j:Nat):bu:=gs.getD j default
def nY(x:bu)(g l:Nat):Nat->aae
 |0=> .cells [.ae g 1 (ah x.W),.own (l+1) x.m 3,.own (l+2) x.m 1] (.ty 137)
 |1=> .rows x.m 3 (bw x.L x.G x.C) (.ty 185)
 |_=> .rows x.m 1 (ah x.T) (.ty 3)
def Ea(q:Query)(gs:List bu)(l:Nat):aae :=
 if l<14 then HR.get l else if l=14 then .cells (aZ q) (.ty 34)else if l=15 then .dK gs.length (λj=>(aG gs j).key) (λj=> .ptr (17+3*j) 0 0 0) m_ else if l=16 then .rows gs.length 1 qB (.ty 132)else nY (aG gs ((l-17)/3)) q.ng l ((l-17)%3)
def gk(q:Query)(gs:List bu):AH:=v_ (17+3*gs.length) (Ea q gs)
def Li(q:Query)(k:Nat)(F:Nat->ao)(gs:List bu)(i:Nat):St:={t:=tG k F (.own 16 gs.length 1) (i:Int),nt:=86,H:=gk q gs,df:=[]}
def ic(q)(gs)(l):(gk q gs).get l=if l<17+3*gs.length then Ea q gs l else .dead:=w_ _ _ _
def vV{σ}(g:σ 14=14)(h:σ 15=15){k F out b a}(m:b=out.bx σ)(i):cR (tG k F b a) i=(cR (tG k F out a) i).bx σ:=by
 unfold tG;rw[gQ,gQ];simp only[vU];by_cases c:i=2
 ·simp only[c,if_true];show _=AV.ptr (σ 14) 0 0 0;rw[g]
 ·by_cases d:i=5
  ·simp only[d,c,if_true,if_false];show _=AV.map (g_ (σ 15));rw[h];rfl
  ·by_cases e:i=6
   grind
   ·by_cases f:i=15
    ·simp only[f,c,d,e,if_true,if_false];rfl
    ·by_cases j:i=16
     ·simp only[j,c,d,e,f,if_true,if_false];rfl
     ·by_cases l:i=17
      ·simp only[l,c,d,e,f,j,if_true,if_false];rfl
      ·simp only[c,d,e,f,j,l,if_false];rfl
def nA(k)(F:Nat->ao):an k (λi=>aB (F i)) (λi=>aB (F i)):=λi _ σ=>⟨⟨rfl,rfl⟩,⟨rfl,rfl⟩,⟨rfl,rfl⟩,⟨rfl,rfl⟩,⟨rfl,rfl⟩,⟨rfl,rfl⟩,⟨rfl,rfl⟩,⟨rfl,rfl⟩,⟨rfl,rfl⟩,⟨rfl,rfl⟩,trivial⟩
def Av(q:Query)(k:Nat)(F:Nat->ao)(gs b:List bu)(i:Nat):Prop :=
 ∀(ro:Option Nat)(n:Nat)(c:fE)(ρ:Env)(a:Act)(w:World),ro=m_->c.G=II.G->(∀l,c.E l->l<16)->cL c ρ (Li q k F gs i) a w->
  (az II 63 4001).wpIn (WF ro) n PP (λx a1 d=>x= .normal/\∃ρ',jI 16 ρ ρ'/\cL c ρ' (Li q k F b (i+1)) a1 d) a w
def Jx(q)(k)(F)(n i)(hi:i<k)(e:k<=1000000)(a:dl q=true)(b:bE (F i)=true)(c:gn q (F i)=false):
  kg [kW q,sU q 0] 63 4001 17 (wR q k F 0 0 0 (.own 16 n 1) (i:Int) false) (wR q k F 0 0 0 (.own 16 n 1) (i:Int) true) (λ_=>True):=by
 rw[Tg (l:=0) _ _ _ _ _ _ _ _ _ A];have d:q_ (i:Int)=i:=O;have f:e_ k=(k:Int):=rfl;have fl:=nA k F;have hQ:=trivial;rw[d,pq,a,b,c];refine aaA (λ_=>?_) O;refine ZE _ _ Y (ZE _ _ A ?_);show ak true _ _;refine ZE _ _ (ai O O) ?_
 repeat' (first|with_reducible refine aag A ?_|with_reducible refine aan A ?_|with_reducible refine aaY A ?_|with_reducible refine And.intro ?_ ?_|with_reducible exact cM _ _|with_reducible exact dJ _ _|with_reducible exact bV|omega|omega)
def Ol(q)(k)(F)(gs)(i)(hi:i<k)(r:k<=1000000)(s:dl q=true)(t:bE (F i)=true)(g:gn q (F i)=false):Av q k F gs gs i:=by
 intro ro n c ρ a w m e E p
 let σ:Nat->Nat:=λl=>if l<17 then l else 17+3*gs.length+(l-17)
 have b:∀l,l<17->σ l=l:=λl h=>Y
 have d:∀l,17<=l->σ l=17+3*gs.length+(l-17):=λl h=>Y
 have nil:∀x,cK [] x= .dead:=λ_=>rfl
 have f:Sub c.G σ (hG q 17 []) (gk q gs):=by
  rw[e];refine D9 (H:=gk q gs) zC (λ_ _=>rfl) (λ_ _=>rfl) (λl h=>?_) ?_ (λl h=>b l O) (λl h=>?_) (λl h=>d l h) Y Y
  ·rw[ic,if_pos O];unfold Ea;rw[if_pos h]
  ·rw[ic,if_pos O];rfl
  ·rw[b l h];show l<17+3*gs.length;omega
 have o:EE σ (hG q 17 []) (hG q 17 []) (gk q gs) (gk q gs):=
  {n:=by rfl
   old:=λl u=>f.same l u
   new:=λl hl=>by have hl:17<=l:=hl;rw[d l hl,ic,if_neg O,f.low l hl];rfl
   rest:=λ_ _ _=>rfl}
 refine wpIn_mono (vT (SB:=Li q k F gs i) (Jx q k F gs.length i hi r s t g) (λj=>vV (b 14 zC) (b 15 zC) (by rfl) j) A ⟨rfl,rfl⟩ ro n c ρ a w m e f p) λx a1 I g=>?_
 obtain⟨rfl,J,v,l1,_,r1⟩:=g;obtain⟨y,_,C⟩:=r1.view l1 (by show c.G<=17;rw[e];decide) (λl hl=>hl);obtain⟨ρ',hx,_,D⟩:=sk (SB':=Li q k F gs (i+1)) p f C o (λj=>vV (b 14 zC) (b 15 zC) (by rfl) j) rfl ⟨rfl,rfl⟩;exact⟨rfl,ρ',jI.of hx,D⟩
def Gy(q:Query)(x:ao):List Int:=[bif M 0 q.ng then bf q x 0 else 0,bif M 1 q.ng then bf q x 1 else 0,bif M 2 q.ng then bf q x 2 else 0]
def Ti(q:Query)(W:Nat->Int)(h:q.ng<=3):(Nat.ble q.ng 3&&List.all (b_ q.ng) λ_=>h_ (f_=f_))=true:=by
 simp_all
def kz(W:Nat->Int)(m:Nat)(v:Int)(j:Nat):Int:=if j=m then v else W j
def Cp(W:Nat->Bool)(m:Nat)(v:Bool)(j:Nat):Bool:=if j=m then v else W j
def Tj(T)(m)(v):an (m+1) (λi=>bif M i m then ah T i else c_ 1 (d_ (0+(i-m)*1) [.int f_ v])) (ah (kz T m v)):=λk a σ=>by
 show bj.le σ (bif M k m then ah T k else c_ 1 (d_ (0+(k-m)*1) [.int f_ v])) [.int f_ (kz T m v k)];unfold kz;by_cases h:k<m
 ·rw[gj h,if_neg O];exact⟨⟨rfl,rfl⟩,trivial⟩
 ·have:k=m:=by omega
  subst this;rw[lR h,if_pos A,show 0+(k-k)*1=0 by omega];exact⟨⟨rfl,rfl⟩,trivial⟩
def Wd(L G)(C)(m)(a b)(c):an (m+1) (λi=>bif M i m then bw L G C i else c_ 3 (d_ (0+(i-m)*3) [.int f_ a,.int f_ b,.bool c])) (bw (kz L m a) (kz G m b) (Cp C m c)):=λk d σ=>by
 show bj.le σ (bif M k m then bw L G C k else c_ 3 (d_ (0+(k-m)*3) [.int f_ a,.int f_ b,.bool c])) [.int f_ (kz L m a k),.int f_ (kz G m b k),.bool (Cp C m c k)];unfold kz Cp;by_cases h:k<m
 ·rw[gj h,if_neg O,if_neg O,if_neg O];exact⟨⟨rfl,rfl⟩,⟨rfl,rfl⟩,rfl,trivial⟩
 ·have:k=m:=by omega
  subst this;rw[lR h,if_pos A,if_pos A,if_pos A,show 0+(k-k)*3=0 by omega];exact⟨⟨rfl,rfl⟩,⟨rfl,rfl⟩,rfl,trivial⟩
def We(v):an 1 (bY [.int f_ v] 1) λ_=>[.int f_ v]:=λk a σ=>by
 have:k=0:=O;subst this;exact⟨⟨rfl,rfl⟩,trivial⟩
def Zc(a b)(c):an 1 (bY [.int f_ a,.int f_ b,.bool c] 3) λ_=>[.int f_ a,.int f_ b,.bool c]:=λk d σ=>by
 have:k=0:=O;subst this;exact⟨⟨rfl,rfl⟩,⟨rfl,rfl⟩,rfl,trivial⟩
def Jy(n)(b):an n (fQ b) (fQ b):=λ_ _ _=>⟨⟨rfl,rfl⟩,trivial⟩
def Om(n)(b)(l):an (n+1) (λi=>bif M i n then fQ b i else c_ 1 (d_ (0+(i-n)*1) [.ptr l 0 0 0])) (λj=>bif a_ j n then [.any]else fQ b j):=λk a σ=>by
 show bj.le σ (bif M k n then fQ b k else c_ 1 (d_ (0+(k-n)*1) [.ptr l 0 0 0])) (bif a_ k n then [.any]else fQ b k);by_cases h:k<n
 ·have e:a_ k n=false:=by
   cases c:a_ k n with
   |false=>rfl
   |true=>simp_all
  rw[gj h,e];exact⟨⟨rfl,rfl⟩,trivial⟩
 ·have:k=n:=by omega
  subst this;rw[lR h,qy,show 0+(k-k)*1=0 by omega];exact⟨trivial,trivial⟩
def Tk(n)(K)(ks)(b:Nat->Nat)(l):∀i,i<n+1->dC n K ks i=dC n K ks i/\∀σ,l_ σ (vf n (λj=> .addr (b j) 0) (.ptr l 0 0 0) i) (bif a_ i n then .any else .addr (b i) 0):=λi hi=>⟨rfl,λσ=>by
 unfold vf;cases a_ i n with
 |true=>exact trivial
 |false=>exact⟨rfl,rfl⟩⟩
def Wf(n)(b)(l):(bif M n n then fQ b n else c_ 1 (d_ (0+(n-n)*1) [.ptr l 0 0 0]))=[.ptr l 0 0 0]:=by
 rw[lR (Pa n),show 0+(n-n)*1=0 by omega];rfl
def On(q)(k n)(F)(K)(b)(j m)(W L G T)(C)(i)(hi:i<k)(s:k<=1000000)(t:m<=1000000)(c:dl q=true)(d:q.ng<=3)(e:bE (F i)=true)(f:gn q (F i)=true)(a1:(gz n K 3&&AU n K [bif M 0 q.ng then bf q (F i) 0 else 0,bif M 1 q.ng then bf q (F i) 1 else 0,bif M 2 q.ng then bf q (F i) 2 else 0] j)=true):
  kg [kW q,sU q q.ng] 63 4001 20 (Jv q k n F K b j q.ng W m (bw L G C) (ah T) (bw (kz L m (qf q (F i))) (kz G m (qg q (F i))) (Cp C m (G9 q (F i)))) (ah (kz T m (i:Int))) (i:Int) false) (Jv q k n F K b j q.ng W m (bw L G C) (ah T) (bw (kz L m (qf q (F i))) (kz G m (qg q (F i))) (Cp C m (G9 q (F i)))) (ah (kz T m (i:Int))) (i:Int) true) (λ_=>True):=by
 rw[Wc _ _ _ _ _ _ _ _ _ _ _ _ _ _ _ A A];have g:q_ (i:Int)=i:=O;have u:e_ k=(k:Int):=rfl;have fl:=nA k F;have hQ:=trivial;have h:=Tj T m (i:Int);have l:=Wd L G C m (qf q (F i)) (qg q (F i)) (G9 q (F i));have o:=Jy n b;have p:a_ q.ng q.ng=true:=qy _;have r:=Ti q (bf q (F i)) d;have a2:(h_ (m<=m)&&true&&true&&h_ ((m+1)*24<=140737488355328)&&true)=true:=by rw[bK (dP m),bK O];rfl
 have a:(h_ (m<=m)&&true&&true&&h_ ((m+1)*8<=140737488355328)&&true)=true:=by rw[bK (dP m),bK O];rfl
 have a4:aJ f_ ((i:Int)+1)=true:=ai O O;rw[g,pq,c,e,f,p];refine aaA (λ_=>?_) O;refine ZE _ _ Y (ZE _ _ A ?_);show ak false _ _
 try refine ZE _ _ A ?_
 repeat' (first|with_reducible refine aag A ?_|with_reducible refine aan A ?_|with_reducible refine aaY A ?_|with_reducible refine And.intro ?_ ?_|with_reducible exact gW _ _|with_reducible exact cM _ _|with_reducible exact dJ _ _|with_reducible exact bV|with_reducible exact fl|with_reducible exact h|with_reducible exact l|with_reducible exact o|with_reducible exact hQ|with_reducible refine ZE _ _ a1 ?_|with_reducible refine ZE _ _ a2 ?_|with_reducible refine ZE _ _ a ?_|with_reducible refine ZE _ _ a4 ?_|refine ZE _ _ r ?_|exactλ_ _=>⟨rfl,λ_=>⟨rfl,rfl⟩⟩|refine ZE _ _ a1 ?_|refine ZE _ _ a2 ?_|refine ZE _ _ a ?_|refine ZE _ _ (by simp;done) ?_)
def Oo(q)(k n)(F)(K)(b)(i)(hi:i<k)(s:k<=1000000)(t:n<=1000000)(d:dl q=true)(e:q.ng<=3)(f:bE (F i)=true)(g:gn q (F i)=true)(a1:(gz n K 3&&Uc n K [bif M 0 q.ng then bf q (F i) 0 else 0,bif M 1 q.ng then bf q (F i) 1 else 0,bif M 2 q.ng then bf q (F i) 2 else 0])=true)(a2:(gz (n+1) (dC n K [bif M 0 q.ng then bf q (F i) 0 else 0,bif M 1 q.ng then bf q (F i) 1 else 0,bif M 2 q.ng then bf q (F i) 2 else 0]) 3&&AU (n+1) (dC n K [bif M 0 q.ng then bf q (F i) 0 else 0,bif M 1 q.ng then bf q (F i) 1 else 0,bif M 2 q.ng then bf q (F i) 2 else 0]) [bif M 0 q.ng then bf q (F i) 0 else 0,bif M 1 q.ng then bf q (F i) 1 else 0,bif M 2 q.ng then bf q (F i) 2 else 0] n)=true):
  kg [kW q,sU q q.ng] 63 4001 17 (Wa q k n F K b [bif M 0 q.ng then bf q (F i) 0 else 0,bif M 1 q.ng then bf q (F i) 1 else 0,bif M 2 q.ng then bf q (F i) 2 else 0] q.ng (bf q (F i)) (qf q (F i)) (qg q (F i)) (G9 q (F i)) (i:Int) false) (Wa q k n F K b [bif M 0 q.ng then bf q (F i) 0 else 0,bif M 1 q.ng then bf q (F i) 1 else 0,bif M 2 q.ng then bf q (F i) 2 else 0] q.ng (bf q (F i)) (qf q (F i)) (qg q (F i)) (G9 q (F i)) (i:Int) true) (Gv n):=by
 have h:=Wb q k n F K b (i:Int) A;have j:q_ (i:Int)=i:=O;rw[j]at h;rw[h];have u:e_ k=(k:Int):=rfl;have fl:=nA k F;have l:=We (i:Int);have m:=Zc (qf q (F i)) (qg q (F i)) (G9 q (F i));have o:=Om n b 20;have s4:=Tk n K [bif M 0 q.ng then bf q (F i) 0 else 0,bif M 1 q.ng then bf q (F i) 1 else 0,bif M 2 q.ng then bf q (F i) 2 else 0] b 20;have a:=Wf n b 20;have p:a_ q.ng q.ng=true:=qy _;have r:=Ti q (bf q (F i)) e;have c:(h_ (n<=n)&&true&&true&&h_ ((n+1)*8<=140737488355328)&&true)=true:=by rw[bK (dP n),bK O];rfl
 have a4:aJ f_ ((i:Int)+1)=true:=ai O O;rw[pq,d,f,g,p];refine aaA (λ_=>?_) O;refine ZE _ _ Y (ZE _ _ A ?_);show ak false _ _
 try refine ZE _ _ A ?_
 repeat' (first|with_reducible refine aag A ?_|with_reducible refine aan A ?_|with_reducible refine aaY A ?_|with_reducible refine And.intro ?_ ?_|with_reducible exact gW _ _|with_reducible exact cM _ _|with_reducible exact dJ _ _|with_reducible exact bV|with_reducible exact fl|with_reducible exact l|with_reducible exact m|with_reducible exact o|with_reducible exact s4|with_reducible exact a|with_reducible refine ZE _ _ a1 ?_|with_reducible refine ZE _ _ a2 ?_|with_reducible refine ZE _ _ c ?_|with_reducible refine ZE _ _ a4 ?_|refine ZE _ _ r ?_|refine ZE _ _ a1 ?_|refine ZE _ _ a2 ?_|refine ZE _ _ c ?_|refine ZE _ _ (by simp;done) ?_|exact a|(rw[lR (Pa n),show 0+(n-n)*1=0 by omega];rfl))
def Tl{σ:Nat->Nat}(g:σ 14=14)(h:σ 15=15){k:Nat}{F:Nat->ao}{out b:AV}{a:Int}(o:l_ σ out b)(i:Nat):l_ σ (cR (tG k F out a) i) (cR (tG k F b a) i):=by
 unfold tG;rw[gQ,gQ];simp only[vU];by_cases c:i=2
 ·simp only[c,if_true];exact⟨g.symm,rfl,rfl,rfl⟩
 ·by_cases d:i=5
  ·simp only[d,c,if_true,if_false];exact h.symm
  ·by_cases e:i=6
   grind
   ·by_cases f:i=15
    ·simp only[f,c,d,e,if_true,if_false];exact⟨rfl,rfl,λj n=>nA k F j n σ⟩
    ·by_cases l:i=16
     ·simp only[l,c,d,e,f,if_true,if_false];exact⟨rfl,rfl⟩
     ·by_cases m:i=17
      ·simp only[m,c,d,e,f,l,if_true,if_false];exact⟨rfl,rfl⟩
      ·simp only[c,d,e,f,l,m,if_false];exact trivial
def iR{gs j}(a:j<gs.length)(x)(l):aG (gs.set j x) l=if l=j then x else aG gs l:=by
 unfold aG
 grind
def nB{q gs l}(h:l<14):(gk q gs).get l=HR.get l:=by
 rw[ic,if_pos O];unfold Ea;rw[if_pos h]
def rm(q)(gs):(gk q gs).get 14= .cells (aZ q) (.ty 34):=by
 rw[ic,if_pos O];rfl
def Aw(q)(gs):(gk q gs).get 15= .dK gs.length (λj=>(aG gs j).key) (λj=> .ptr (17+3*j) 0 0 0) m_:=by
 rw[ic,if_pos O];rfl
def Cq(q)(gs):(gk q gs).get 16= .rows gs.length 1 qB (.ty 132):=by
 rw[ic,if_pos O];rfl
def nZ{q gs j d}(a:j<gs.length)(b:d<3):(gk q gs).get (17+3*j+d)=nY (aG gs j) q.ng (17+3*j+d) d:=by
 rw[ic,if_pos O];unfold Ea
 grind
def Ax{q gs l}(h:17+3*gs.length<=l):(gk q gs).get l= .dead:=by
 rw[ic,if_neg O]
def lG(T)(σ)(i):bj.le σ (ah T i) (ah T i):=⟨⟨rfl,rfl⟩,trivial⟩
def sn(L G)(C)(σ)(i):bj.le σ (bw L G C i) (bw L G C i):=⟨⟨rfl,rfl⟩,⟨rfl,rfl⟩,rfl,trivial⟩
def Lj{σ:Nat->Nat}{x:bu}{g l d:Nat}(a:d<3)(h:d=0->σ (l+1)=l+1/\σ (l+2)=l+2):(nY x g l d).le σ (nY x g l d):=by
 match d,a with
 |0,_=>exact⟨⟨⟨rfl,rfl,λi _=>lG _ σ i⟩,⟨(h A).1.symm,rfl,rfl⟩,⟨(h A).2.symm,rfl,rfl⟩,trivial⟩,rfl⟩
 |1,_=>exact⟨rfl,rfl,λi _=>sn _ _ _ σ i,rfl⟩
 |2,_=>exact⟨rfl,rfl,λi _=>lG _ σ i,rfl⟩
def Ay(n l):l<14∨l=14∨l=15∨l=16∨(∃i d,i<n/\d<3/\l=17+3*i+d)∨17+3*n<=l:=by
 by_cases h:l<17
 ·omega
 ·by_cases a:17+3*n<=l
  ·omega
  ·exact .inr (.inr (.inr (.inr (.inl ⟨(l-17)/3,(l-17)%3,O,O,O⟩))))
def tD(N j l:Nat):Nat:=if l<17 then l else if l<20 then 17+3*j+(l-17)else N+(l-20)
def Bh(N j l:Nat):Nat:=if l=17+3*j+1 then N else if l=17+3*j+2 then N+1 else if l<N then l else l+2
def uQ(q:Query)(gs:List bu)(b:Nat->Nat)(j:Nat):AH:=((gk q gs).set 15 (.dK gs.length (λj=>(aG gs j).key) (λj=> .addr (b j) 0) (g_ (j,.ptr (17+3*j) 0 0 0)))).set 16 (.rows gs.length 1 (fQ b) (.ty 132))
def dO(q)(gs)(b)(j l):(uQ q gs b j).get l=if l=16 then .rows gs.length 1 (fQ b) (.ty 132)else if l=15 then .dK gs.length (λj=>(aG gs j).key) (λj=> .addr (b j) 0) (g_ (j,.ptr (17+3*j) 0 0 0))else(gk q gs).get l:=by
 unfold uQ;rw[i_,i_]
def ou(q:Query)(gs:List bu)(b:Nat->Nat)(j:Nat)(x:bu)(l:Nat):aae :=
 if l=17+3*j then .cells [.ae q.ng 1 (ah x.W),.own (17+3*gs.length) x.m 3,.own (17+3*gs.length+1) x.m 1] (.ty 137)else if l=17+3*j+1 then .dead else if l=17+3*j+2 then .dead else if l=17+3*gs.length then .rows x.m 3 (bw x.L x.G x.C) (.ty 185)else if l=17+3*gs.length+1 then .rows x.m 1 (ah x.T) (.ty 3)else(uQ q gs b j).get l
def Az(q:Query)(gs:List bu)(b:Nat->Nat)(j:Nat)(x:bu):AH:=v_ (17+3*gs.length+2) (ou q gs b j x)
def fD(q)(gs)(b)(j)(x)(l):(Az q gs b j x).get l=if l<17+3*gs.length+2 then ou q gs b j x l else .dead:=w_ _ _ _
def AA(n:Nat)(K:Nat->List Int)(b:Nat->Nat)(j g:Nat)(W:Nat->Int)(m:Nat)(S T:Nat->List AV):List (Nat×aae):=[(15,.dK n K (λj=> .addr (b j) 0) (g_ (j,.ptr 17 0 0 0))),(16,.rows n 1 (fQ b) (.ty 132)),(17,.cells [.ae g 1 (ah W),.own 18 m 3,.own 19 m 1] (.ty 137)),(18,.rows m 3 S (.ty 185)),(19,.rows m 1 T (.ty 3))]
def AB(n:Nat)(K:Nat->List Int)(b:Nat->Nat)(j g:Nat)(W:Nat->Int)(m:Nat)(S T:Nat->List AV):List (Nat×aae):=[(15,.dK n K (λj=> .addr (b j) 0) (g_ (j,.ptr 17 0 0 0))),(16,.rows n 1 (fQ b) (.ty 132)),(17,.cells [.ae g 1 (ah W),.own 20 m 3,.own 21 m 1] (.ty 137)),(20,.rows m 3 S (.ty 185)),(21,.rows m 1 T (.ty 3))]
def rn{n K b j g W m S T l}(a:cK (AA n K b j g W m S T) l≠ .dead):l=15∨l=16∨l=17∨l=18∨l=19:=z λh=>a (by
 simp only[not_or]at h;obtain⟨c,d,h3,h4,e⟩:=h;simp only[AA,cK,c,d,h3,h4,e,if_false])
def Cr{n K b j g W m S T l}(a:l≠15)(c:l≠16)(h3:l≠17)(h4:l≠20)(d:l≠21):cK (AB n K b j g W m S T) l= .dead:=by
 simp only[AB,cK,a,c,h3,h4,d,if_false]
set_option maxHeartbeats 4000000 in
def Tm(q:Query)(k:Nat)(F:Nat->ao)(gs:List bu)(i j:Nat)(g:bu)(ks:List (ax PP II))(Q:j<gs.length)(b0:g.key=(aG gs j).key)(b1:g.W=(aG gs j).W)(b2:g.m=(aG gs j).m+1)
  (small:∀b,kg ks 63 4001 20 (Jv q k gs.length F (λj=>(aG gs j).key) b j q.ng (aG gs j).W (aG gs j).m (bw (aG gs j).L (aG gs j).G (aG gs j).C) (ah (aG gs j).T) (bw g.L g.G g.C) (ah g.T) (i:Int) false) (Jv q k gs.length F (λj=>(aG gs j).key) b j q.ng (aG gs j).W (aG gs j).m (bw (aG gs j).L (aG gs j).G (aG gs j).C) (ah (aG gs j).T) (bw g.L g.G g.C) (ah g.T) (i:Int) true) (λ_=>True)):
  Av q k F gs (gs.set j g) i:=by
 intro ro n c ρ a w b3 J hE hr;obtain⟨b,hb,V⟩:=Gx (n:=gs.length) (K:=λj=>(aG gs j).key) hr.heap (Aw q gs) (Cq q gs);have r0:Rel c ρ (uQ q gs b j) w:=V (g_ (j,.ptr (17+3*j) 0 0 0)) (by rintro j' a e;cases e;exact⟨Q,rfl⟩);have X:cL c ρ {Li q k F gs i with H:=uQ q gs b j} a w:=⟨hr.tmp,r0,hr.df⟩;have p:∀l,l<17->tD (17+3*gs.length) j l=l:=λl h=>by unfold tD;rw[if_pos h]
 have y:tD (17+3*gs.length) j 17=17+3*j:=rfl;have D:tD (17+3*gs.length) j 18=17+3*j+1:=rfl;have E:tD (17+3*gs.length) j 19=17+3*j+2:=rfl;have R:∀l,20<=l->tD (17+3*gs.length) j l=17+3*gs.length+(l-20):=λl h=>by unfold tD;rw[if_neg O,if_neg O]
 have t0:=nZ (q:=q) (gs:=gs) Q (O:0<3);have t1:=nZ (q:=q) (gs:=gs) Q (O:1<3);have t2:=nZ (q:=q) (gs:=gs) Q (O:2<3);have hs:Sub c.G (tD (17+3*gs.length) j) (hG q 20 (AA gs.length (λj=>(aG gs j).key) b j q.ng (aG gs j).W (aG gs j).m (bw (aG gs j).L (aG gs j).G (aG gs j).C) (ah (aG gs j).T))) (uQ q gs b j):=by
  rw[J];refine D9 zC (λl hl=>?_) (λl hl=>?_) (λl h=>?_) ?_ (λl h=>p l O) (λl h=>?_) (λl h=>R l h) (λl hl u=>?_) λl l' h h' e=>?_
  ·exact z λu=>by have:=rn u;omega
  ·exact z λu=>by have:=rn u;omega
  ·rw[dO,if_neg O,if_neg O,nB h]
  ·rw[dO,if_neg O,if_neg O,rm]
  ·show tD _ _ l<17+3*gs.length;unfold tD;by_cases h1:l<17
   ·rw[if_pos h1];omega
   ·rw[if_neg h1,if_pos h];omega
  ·rcases rn u with rfl|rfl|rfl|rfl|rfl
   ·rw[p 15 zC,dO,if_neg O,if_pos A];rfl
   ·rw[p 16 zC,dO,if_pos A];rfl
   ·rw[y,dO,if_neg O,if_neg O];exact t0
   ·rw[D,dO,if_neg O,if_neg O];exact t1
   ·rw[E,dO,if_neg O,if_neg O];exact t2
  ·unfold tD at e;split at e<;>split at e<;>(try split at e)<;>(try split at e)<;>omega
 have b4:EE (tD (17+3*gs.length) j) (hG q 20 (AA gs.length (λj=>(aG gs j).key) b j q.ng (aG gs j).W (aG gs j).m (bw (aG gs j).L (aG gs j).G (aG gs j).C) (ah (aG gs j).T))) (hG q 22 (AB gs.length (λj=>(aG gs j).key) b j q.ng g.W g.m (bw g.L g.G g.C) (ah g.T))) (uQ q gs b j) (Az q gs b j g):=by
  have nd:∀l,l<15->cK (AA gs.length (λj=>(aG gs j).key) b j q.ng (aG gs j).W (aG gs j).m (bw (aG gs j).L (aG gs j).G (aG gs j).C) (ah (aG gs j).T)) l= .dead:=λl hl=>z λu=>by have:=rn u;omega
  have Y:∀l,l<15->cK (AB gs.length (λj=>(aG gs j).key) b j q.ng g.W g.m (bw g.L g.G g.C) (ah g.T)) l= .dead:=λl hl=>Cr O O O O O
  refine⟨?_,λl u=>?_,λl hl=>?_,λl hl U=>?_⟩
  ·show 17+3*gs.length+2=17+3*gs.length+(22-20);omega
  ·rw[fC nd]at u;rw[fC Y];by_cases h:l<14
   ·rw[if_pos h,p l O,Jw λj Q=>p j O,fD,if_pos O];unfold ou;rw[if_neg O,if_neg O,if_neg O,if_neg O,if_neg O,dO,if_neg O,if_neg O,nB h]
   ·rw[if_neg h]at u⊢;by_cases Z:l=14
    ·subst Z;rw[if_pos A,p 14 O,fD,if_pos O];unfold ou;rw[if_neg O,if_neg O,if_neg O,if_neg O,if_neg O,dO,if_neg O,if_neg O,rm];rfl
    ·rw[if_neg Z]at u⊢;rcases rn u with rfl|rfl|rfl|rfl|rfl
     ·rw[p 15 zC,fD,if_pos O];unfold ou;rw[if_neg O,if_neg O,if_neg O,if_neg O,if_neg O,dO,if_neg O,if_pos A];rfl
     ·rw[p 16 zC,fD,if_pos O];unfold ou;rw[if_neg O,if_neg O,if_neg O,if_neg O,if_neg O,dO,if_pos A];rfl
     ·rw[y,fD,if_pos O];unfold ou;rw[if_pos A];rfl
     ·rw[D,fD,if_pos O];unfold ou;rw[if_neg O,if_pos A];rfl
     ·rw[E,fD,if_pos O];unfold ou;rw[if_neg O,if_neg O,if_pos A];rfl
  ·have hl:20<=l:=hl;rw[fC Y,if_neg O,if_neg O,R l hl,fD];by_cases aa:l=20
   ·subst aa;rw[if_pos O];unfold ou;rw[if_neg O,if_neg O,if_neg O,if_pos O];rfl
   ·by_cases ad:l=21
    ·subst ad;rw[if_pos O];unfold ou;rw[if_neg O,if_neg O,if_neg O,if_neg O,if_pos O];rfl
    ·rw[if_neg O,Cr O O O aa ad];rfl
  ·have hl:l<17+3*gs.length:=hl;have I:∀d,d<3->(hG q 20 (AA gs.length (λj=>(aG gs j).key) b j q.ng (aG gs j).W (aG gs j).m (bw (aG gs j).L (aG gs j).G (aG gs j).C) (ah (aG gs j).T))).get (17+d)≠ .dead:=λd u=>by
    rw[fC nd,if_neg O,if_neg O]
    match d,u with
    |0,_=>exactλe=>zG
    |1,_=>exactλe=>zG
    |2,_=>exactλe=>zG
   have n0:l≠17+3*j:=λe=>U 17 (I 0 O) (by rw[y];exact e.symm)
   have n1:l≠17+3*j+1:=λe=>U 18 (I 1 O) (by rw[D];exact e.symm)
   have n2:l≠17+3*j+2:=λe=>U 19 (I 2 O) (by rw[E];exact e.symm)
   rw[fD,if_pos O];unfold ou;rw[if_neg n0,if_neg n1,if_neg n2,if_neg O,if_neg O]
 have tt:∀f l,cR (tG k F (.own 16 gs.length 1) f) l=(cR (tG k F (.own 16 gs.length 1) f) l).bx (tD (17+3*gs.length) j):=λf l=>vV (p 14 zC) (p 15 zC) (by show _=t_ (tD _ _ 16) _ _;rw[p 16 zC]) l
 refine wpIn_mono (vT (SB:={Li q k F gs i with H:=uQ q gs b j}) (small b) (λl=>tt _ l) A ⟨rfl,rfl⟩ ro n c ρ a w b3 J hs X) λx a1 w1 hp=>?_
 obtain⟨rfl,s1,b8,l1,_,r1⟩:=hp;obtain⟨b5,_,r2⟩:=r1.view l1 (by show c.G<=20;rw[J];decide) (λl hl=>hl);have b6:cL (c.jt ρ (hG q 20 (AA gs.length (λj=>(aG gs j).key) b j q.ng (aG gs j).W (aG gs j).m (bw (aG gs j).L (aG gs j).G (aG gs j).C) (ah (aG gs j).T))) (uQ q gs b j) (tD (17+3*gs.length) j) w) b5 {t:=tG k F (.own 16 gs.length 1) ((i:Int)+1),nt:=86,H:=hG q 22 (AB gs.length (λj=>(aG gs j).key) b j q.ng g.W g.m (bw g.L g.G g.C) (ah g.T)),df:=[]} a1 w1:=by rw[b1,b2];exact r2
 obtain⟨P,hx,_,r3⟩:=sk (s:=Jv q k gs.length F (λj=>(aG gs j).key) b j q.ng (aG gs j).W (aG gs j).m (bw (aG gs j).L (aG gs j).G (aG gs j).C) (ah (aG gs j).T) (bw g.L g.G g.C) (ah g.T) (i:Int) false) (SB':={t:=tG k F (.own 16 gs.length 1) ((i:Int)+1),nt:=86,H:=Az q gs b j g,df:=[]}) X hs b6 b4 (λl=>tt _ l) rfl ⟨rfl,rfl⟩;have b7:∀l,l<gs.length->∃N,P (17+3*l)=g_ (b l,N):=λl hl=>by obtain⟨N,e⟩:=hb l hl;exact⟨N,hx _ _ e⟩
 have back:∀l,l<gs.length->∀v,VR P (.addr (b l) 0) v->VR P (.ptr (17+3*l) 0 0 0) v:=λl hl v hv=>by obtain⟨N,e⟩:=b7 l hl;refine rl.2 ⟨b l,N,e,?_⟩;simpa only[VR]using hv
 have ap:(Az q gs b j g).get 15= .dK gs.length (λj=>(aG gs j).key) (λj=> .addr (b j) 0) (g_ (j,.ptr (17+3*j) 0 0 0)):=by rw[fD,if_pos O];unfold ou;rw[if_neg O,if_neg O,if_neg O,if_neg O,if_neg O,dO,if_neg O,if_pos A]
 have a6:(Az q gs b j g).get 16= .rows gs.length 1 (fQ b) (.ty 132):=by rw[fD,if_pos O];unfold ou;rw[if_neg O,if_neg O,if_neg O,if_neg O,if_neg O,dO,if_pos A]
 have r4:=Lg (L:=16) r3.heap zC ap a6 (λ_=>rfl) (λl hl=> .inr λv hv=>back l hl v hv) λl hl v hv=>back l hl v (aV.aM.1 hv).1
 have S:∀l,(((Az q gs b j g).set 15 (.dK gs.length (λj=>(aG gs j).key) (λj=> .ptr (17+3*j) 0 0 0) m_)).set 16 (.rows gs.length 1 qB (.ty 132))).get l=if l=16 then .rows gs.length 1 qB (.ty 132)else if l=15 then .dK gs.length (λj=>(aG gs j).key) (λj=> .ptr (17+3*j) 0 0 0) m_ else if l<17+3*gs.length+2 then ou q gs b j g l else .dead:=λl=>by rw[i_,i_,fD]
 have o:∀l,l<17+3*gs.length->l≠17+3*j+1->l≠17+3*j+2->Bh (17+3*gs.length) j l=l:=λl h h1 h2=>by unfold Bh;rw[if_neg h1,if_neg h2,if_pos h]
 have a7:Bh (17+3*gs.length) j (17+3*j+1)=17+3*gs.length:=by unfold Bh;rw[if_pos A]
 have bd:Bh (17+3*gs.length) j (17+3*j+2)=17+3*gs.length+1:=by unfold Bh;rw[if_neg O,if_pos A]
 have r:(gs.set j g).length=gs.length:=k_;have bq:r_ 16 (Bh (17+3*gs.length) j) (((Az q gs b j g).set 15 (.dK gs.length (λj=>(aG gs j).key) (λj=> .ptr (17+3*j) 0 0 0) m_)).set 16 (.rows gs.length 1 qB (.ty 132))) (gk q (gs.set j g)):=by
  refine⟨?_,λl hl=>o l O O O,λl hl=>?_,λl=>?_,λl l' _ _ e _=>?_,λl hl=>Ax hl⟩
  ·show 16<=17+3*(gs.set j g).length;omega
  ·have hl:17+3*(gs.set j g).length<=l:=hl;rw[r]at hl;show 17+3*gs.length+2<=Bh _ _ l;unfold Bh;rw[if_neg O,if_neg O,if_neg O];omega
  ·rcases Ay gs.length l with h|rfl|rfl|rfl|⟨i',d,hi,u,rfl⟩|h
   ·refine .inr (.inl ?_);rw[nB h,o l O O O,S,if_neg O,if_neg O,if_pos O];unfold ou;rw[if_neg O,if_neg O,if_neg O,if_neg O,if_neg O,dO,if_neg O,if_neg O,nB h];exact Lh (λj Q=>o j O O O) l
   ·refine .inr (.inl ?_);rw[rm,o 14 O O O,S,if_neg O,if_neg O,if_pos O];unfold ou;rw[if_neg O,if_neg O,if_neg O,if_neg O,if_neg O,dO,if_neg O,if_neg O,rm];exact⟨kN _ _,rfl⟩
   ·refine .inr (.inl ?_);rw[Aw,o 15 O O O,S,if_neg O,if_pos A];refine⟨r.symm,λl hl=>?_,λl hl=>⟨(o _ O O O).symm,rfl,rfl,rfl⟩,λ_ _ e=>zG⟩;show(aG gs l).key=(aG (gs.set j g) l).key;rw[iR Q];by_cases h:l=j
    ·rw[if_pos h,b0,h]
    ·rw[if_neg h]
   ·refine .inr (.inl ?_);rw[Cq,o 16 O O O,S,if_pos A];exact⟨r.symm,rfl,λl hl=>⟨⟨(o _ O O O).symm,rfl,rfl,rfl⟩,trivial⟩,rfl⟩
   ·refine .inr (.inl ?_);rw[nZ (by rw[r];exact hi) u,iR Q];by_cases bs:i'=j
    ·subst bs;rw[if_pos A]
     match d,u with
     |0,_=>rw[p_,o _ O O O,S,if_neg O,if_neg O,if_pos O];unfold ou;rw[if_pos A];exact⟨⟨⟨rfl,rfl,λi _=>lG _ _ i⟩,⟨a7.symm,rfl,rfl⟩,⟨bd.symm,rfl,rfl⟩,trivial⟩,rfl⟩
     |1,_=>rw[a7,S,if_neg O,if_neg O,if_pos O];unfold ou;rw[if_neg O,if_neg O,if_neg O,if_pos A];exact⟨rfl,rfl,λi _=>sn _ _ _ _ i,rfl⟩
     |2,_=>rw[bd,S,if_neg O,if_neg O,if_pos O];unfold ou;rw[if_neg O,if_neg O,if_neg O,if_neg O,if_pos A];exact⟨rfl,rfl,λi _=>lG _ _ i,rfl⟩
    ·rw[if_neg bs,o _ O O O,S,if_neg O,if_neg O,if_pos O];unfold ou;rw[if_neg O,if_neg O,if_neg O,if_neg O,if_neg O,dO,if_neg O,if_neg O,nZ hi u];exact Lj u λe=>⟨o _ O O O,o _ O O O⟩
   ·exact .inl (Ax (by rw[r];exact h))
  ·unfold Bh at e;split at e<;>split at e<;>(try split at e)<;>(try split at e)<;>(try split at e)<;>(try split at e)<;>omega
 have r5:=r4.view bq (by rw[J];decide) hE;refine⟨rfl,_,(jI.of hx).trans (bq.ext P),⟨r3.tmp.1,λl=>?_⟩,r5,r3.df⟩;refine VR.le _ _ _ ?_ (r3.tmp.2 l);show l_ _ (cR (tG k F (.own 16 gs.length 1) ((i:Int)+1)) l) (cR (tG k F (.own 16 (gs.set j g).length 1) ((i:Int)+1)) l);rw[r];exact Tl (o 14 O O O) (o 15 O O O) (show l_ _ (.own 16 gs.length 1) (.own 16 gs.length 1)from⟨(o 16 O O O).symm,rfl,rfl⟩) l
def AH.Le.swap{n0 σ H H1 H2}(h:r_ n0 σ H H1)(b)(c:H2.n=H1.n)(f:∀l,l≠b->H2.get l=H1.get l)(j:H1.get b≠ .dead)(m:(H.get (σ b)).le σ (H2.get b)):r_ n0 σ H H2:=by
 have a:∀l,H2.get l≠ .dead->H1.get l≠ .dead:=Y;refine⟨by rw[c];exact h.n,h.id,λl hl=>h.ge l (by rw[<-c];exact hl),λl=>?_,λl d k i=>h.inj l d (a l k) (a d i),λl hl=>?_⟩
 ·by_cases e:l=b
  grind
  ·rw[f l e];exact h.eB l
 ·have:H1.get l= .dead:=h.low l (by rw[<-c];exact hl)
  grind
def rp(n:Nat)(b:Nat->Nat)(a:AV)(j:Nat):List AV:=bif a_ j n then [a]else fQ b j
def uR(n:Nat)(b:Nat->Nat)(j:Nat):AV:=bif a_ j n then .any else .addr (b j) 0
def AD(n:Nat)(K:Nat->List Int)(b:Nat->Nat):List (Nat×aae):=[(15,.dK n K (λj=> .addr (b j) 0) m_),(16,.rows n 1 (fQ b) (.ty 132))]
def qh(n:Nat)(K:Nat->List Int)(b:Nat->Nat)(ks:List Int)(g:Nat)(x:bu)(a:AV):List (Nat×aae):=[(15,.dK (n+1) (dC n K ks) (uR n b) (g_ (n,.ptr 17 0 0 0))),(17,.cells [.ae g 1 (ah x.W),.own 18 1 3,.own 19 1 1] (.ty 137)),(18,.rows 1 3 (bw x.L x.G x.C) (.ty 185)),(19,.rows 1 1 (ah x.T) (.ty 3)),(20,.rows (n+1) 1 (rp n b a) (.ty 132))]
def uS{n K b l}(a:cK (AD n K b) l≠ .dead):l=15∨l=16:=z λh=>a (by
 simp only[not_or]at h;obtain⟨c,d⟩:=h;simp only[AD,cK,c,d,if_false])
def vW{n K b ks g x a l}(c:l≠15)(h3:l≠17)(h4:l≠18)(d:l≠19)(e:l≠20):cK (qh n K b ks g x a) l= .dead:=by
 simp only[qh,cK,c,h3,h4,d,e,if_false]
def sN(q:Query)(k n:Nat)(F:Nat->ao)(K:Nat->List Int)(b:Nat->Nat)(ks:List Int)(g:Nat)(x:bu)(a:AV)(i:Int):St:={t:=tG k F (.own 20 (n+1) 1) (i+1),nt:=86,H:=hG q 21 (qh n K b ks g x a),df:=[]}
def Jz{q:Query}{k n:Nat}{F:Nat->ao}{K:Nat->List Int}{b:Nat->Nat}{ks:List Int}{g:Nat}{x:bu}{i:Int}{d:St}(h:St.Le 17 d (sN q k n F K b ks g x .any i))(c:Gv n d):St.Le 17 d (sN q k n F K b ks g x (.ptr 17 0 0 0) i):=by
 obtain⟨σ,k1,k2,E,J⟩:=h.le;have nd:∀a l,l<15->cK (qh n K b ks g x a) l= .dead:=λa l hl=>vW O O O O O
 have p:∀a,(hG q 21 (qh n K b ks g x a)).get 20= .rows (n+1) 1 (rp n b a) (.ty 132):=λa=>by rfl
 have u:∀a,(hG q 21 (qh n K b ks g x a)).get 15= .dK (n+1) (dC n K ks) (uR n b) (g_ (n,.ptr 17 0 0 0)):=λa=>by rfl
 have G:l_ σ (cR d.t 6) (.own 20 (n+1) 1):=by
  have e:cR (tG k F (.own 20 (n+1) 1) (i+1)) 6= .own 20 (n+1) 1:=by unfold tG;rw[gQ];rfl
  rw[<-e];exact Tr.tg E 6
 refine⟨σ,k1.swap 20 A (λl hl=>?_) ?_ ?_,k2,E,J⟩
 ·show(hG q 21 _).get l=(hG q 21 _).get l;rw[fC (nd _),fC (nd _)];by_cases h:l<14
  grind
  ·rw[if_neg h,if_neg h];by_cases r:l=14
   grind
   ·rw[if_neg r,if_neg r];simp only[qh,cK,hl,if_false]
 ·show(hG q 21 _).get 20≠_
  grind
 ·show(d.H.get (σ 20)).le σ ((hG q 21 _).get 20);have j:=k1.eB 20;have o:=k1.eB 15;rw[show(sN q k n F K b ks g x .any i).H.get 20=_ from p .any]at j;rw[show(sN q k n F K b ks g x .any i).H.get 15=_ from u .any,k1.id 15 O]at o;rw[p];unfold Gv at c;cases N:cR d.t 6 with
  |own L m e=>
   rw[N]at c G;obtain⟨rfl,_,_⟩:=G;cases v:d.H.get (σ 20)with
   |rows Z ee f ac=>
    simp only[v]at c;rw[v]at j;cases w:d.H.get 15 with
    |dK mm KK P y=>
     simp only[w]at c;rw[w]at o;cases y with
     |none=>exact c.elim
     |some Q=>
      obtain⟨j0,a0⟩:=Q;cases a0 with
      |ptr g0 R S z0=>
       have T:f n=[.ptr g0 R S z0]:=c;rcases o with s|⟨_,_,_,s⟩|⟨_,s⟩
       ·cases s
       ·obtain⟨a1,f1,U⟩:=s n (.ptr 17 0 0 0) rfl;cases f1;rcases j with C|⟨V,W,D,X⟩|⟨_,C⟩
        ·cases C
        ·refine⟨V,W,λI hi=>?_,X⟩;have D:=D I hi;unfold rp at D⊢;cases Y:a_ I n with
         |false=>grind
         |true=>have:=dV Y;subst this;rw[T];exact⟨U,trivial⟩
        ·exact absurd C (by show¬ (n+1=0);omega)
       ·exact s.elim
      |_=>exact c.elim
    |_=>simp only[w]at c
   |_=>simp only[v]at c
  |_=>grind
def nI(N l:Nat):Nat:=if l<17 then l else N+(l-17)
def Gz(N l:Nat):Nat:=if l=16 then N+3 else if l<N+3 then l else l+1
def wS(q:Query)(gs:List bu)(b:Nat->Nat):AH:=((gk q gs).set 15 (.dK gs.length (λj=>(aG gs j).key) (λj=> .addr (b j) 0) m_)).set 16 (.rows gs.length 1 (fQ b) (.ty 132))
def mz(q)(gs)(b)(l):(wS q gs b).get l=if l=16 then .rows gs.length 1 (fQ b) (.ty 132)else if l=15 then .dK gs.length (λj=>(aG gs j).key) (λj=> .addr (b j) 0) m_ else(gk q gs).get l:=by
 unfold wS;rw[i_,i_]
def rq(q:Query)(gs:List bu)(b:Nat->Nat)(ks:List Int)(x:bu)(l:Nat):aae :=
 if l=15 then .dK (gs.length+1) (dC gs.length (λj=>(aG gs j).key) ks) (uR gs.length b) (g_ (gs.length,.ptr (17+3*gs.length) 0 0 0))else if l=16 then .dead else if l=17+3*gs.length then .cells [.ae q.ng 1 (ah x.W),.own (17+3*gs.length+1) 1 3,.own (17+3*gs.length+2) 1 1] (.ty 137)else if l=17+3*gs.length+1 then .rows 1 3 (bw x.L x.G x.C) (.ty 185)else if l=17+3*gs.length+2 then .rows 1 1 (ah x.T) (.ty 3)
  else if l=17+3*gs.length+3 then .rows (gs.length+1) 1 (rp gs.length b (.ptr (17+3*gs.length) 0 0 0)) (.ty 132)else(wS q gs b).get l
def AE(q:Query)(gs:List bu)(b:Nat->Nat)(ks:List Int)(x:bu):AH:=v_ (17+3*gs.length+4) (rq q gs b ks x)
def ja(q)(gs)(b)(ks)(x)(l):(AE q gs b ks x).get l=if l<17+3*gs.length+4 then rq q gs b ks x l else .dead:=w_ _ _ _
def pu{q gs b ks x l}(h:l<17+3*gs.length)(a:l≠15)(c:l≠16):rq q gs b ks x l=(gk q gs).get l:=by
 unfold rq;rw[if_neg a,if_neg c,if_neg O,if_neg O,if_neg O,if_neg O,mz,if_neg c,if_neg a]
def iS(gs)(x)(l):aG (gs++[x]) l=if l=gs.length then x else aG gs l:=by
 unfold aG
 grind
def Oq(σ)(n)(b)(l):(λi=>bj.bx σ (rp n b (.ptr l 0 0 0) i))=rp n b (.ptr (σ l) 0 0 0):=funext λi=>by
 unfold rp;cases a_ i n<;>rfl
def Ot(σ)(n)(b):(λi=>(uR n b i).bx σ)=uR n b:=funext λi=>by
 unfold uR;cases a_ i n<;>rfl
def tE{i n:Nat}(h:i≠n):a_ i n=false:=by
 cases a:a_ i n with
 |false=>rfl
 |true=>simp_all
set_option maxHeartbeats 4000000 in
def Tn(q:Query)(k:Nat)(F:Nat->ao)(gs:List bu)(i:Nat)(x:bu)(kn:List (ax PP II))(hm:x.m=1)
  (small:∀b,kg kn 63 4001 17 {t:=tG k F (.own 16 gs.length 1) (i:Int),nt:=86,H:=hG q 17 (AD gs.length (λj=>(aG gs j).key) b),df:=[]} (sN q k gs.length F (λj=>(aG gs j).key) b x.key q.ng x .any (i:Int)) (Gv gs.length)):
  Av q k F gs (gs++[x]) i:=by
 intro ro n c ρ a w ap C hE hr;obtain⟨b,hb,J⟩:=Gx (n:=gs.length) (K:=λj=>(aG gs j).key) hr.heap (Aw q gs) (Cq q gs);have r0:Rel c ρ (wS q gs b) w:=J m_ (by rintro j' a e;cases e);have P:cL c ρ {Li q k F gs i with H:=wS q gs b} a w:=⟨hr.tmp,r0,hr.df⟩;have f:∀l,l<17->nI (17+3*gs.length) l=l:=λl h=>by unfold nI;rw[if_pos h]
 have r:∀l,17<=l->nI (17+3*gs.length) l=17+3*gs.length+(l-17):=λl h=>by unfold nI;rw[if_neg O]
 have nd:∀l,l<15->cK (AD gs.length (λj=>(aG gs j).key) b) l= .dead:=λl hl=>z λp=>by have:=uS p;omega
 have Q:∀l,l<15->cK (qh gs.length (λj=>(aG gs j).key) b x.key q.ng x (.ptr 17 0 0 0)) l= .dead:=λl hl=>vW O O O O O
 have hs:Sub c.G (nI (17+3*gs.length)) (hG q 17 (AD gs.length (λj=>(aG gs j).key) b)) (wS q gs b):=by
  rw[C];refine D9 zC nd (λl hl=>?_) (λl h=>?_) ?_ (λl h=>f l O) (λl h=>?_) (λl h=>r l h) (λl hl p=>?_) λl l' h h' e=>?_
  ·exact z λp=>by have:=uS p;omega
  ·rw[mz,if_neg O,if_neg O,nB h]
  ·rw[mz,if_neg O,if_neg O,rm]
  ·rw[f l h];show l<17+3*gs.length;omega
  ·rcases uS p with rfl|rfl
   ·rw[f 15 zC,mz,if_neg O,if_pos A];rfl
   ·rw[f 16 zC,mz,if_pos A];rfl
  ·rw[f l h,f l' h']at e;exact e
 have a6:EE (nI (17+3*gs.length)) (hG q 17 (AD gs.length (λj=>(aG gs j).key) b)) (hG q 21 (qh gs.length (λj=>(aG gs j).key) b x.key q.ng x (.ptr 17 0 0 0))) (wS q gs b) (AE q gs b x.key x):=by
  refine⟨?_,λl p=>?_,λl hl=>?_,λl hl R=>?_⟩
  ·show 17+3*gs.length+4=17+3*gs.length+(21-17);omega
  ·rw[fC nd]at p;rw[fC Q];by_cases h:l<14
   ·rw[if_pos h,f l O,Jw λj hj=>f j O,ja,if_pos O,pu O O O,nB h]
   ·rw[if_neg h]at p⊢;by_cases S:l=14
    ·subst S;rw[if_pos A,f 14 O,ja,if_pos O,pu O O O,rm];rfl
    ·rw[if_neg S]at p⊢;rcases uS p with rfl|rfl
     ·rw[f 15 zC,ja,if_pos O];show rq _ _ _ _ _ 15=aae.dK _ _ (λi=>(uR gs.length b i).bx _) (g_ (gs.length,.ptr (nI (17+3*gs.length) 17) 0 0 0));rw[Ot];unfold rq;rw[if_pos A];rfl
     ·rw[f 16 zC,ja,if_pos O];unfold rq;rw[if_neg O,if_pos A];rfl
  ·have hl:17<=l:=hl;rw[fC Q,if_neg O,if_neg O,r l hl,ja];by_cases T:l=17
   ·subst T;rw[if_pos O];unfold rq;rw[if_neg O,if_neg O,if_pos O];rfl
   ·by_cases U:l=18
    ·subst U;rw[if_pos O];unfold rq;rw[if_neg O,if_neg O,if_neg O,if_pos O];rfl
    ·by_cases V:l=19
     ·subst V;rw[if_pos O];unfold rq;rw[if_neg O,if_neg O,if_neg O,if_neg O,if_pos O];rfl
     ·by_cases W:l=20
      ·subst W;rw[if_pos O];show _=aae.rows _ _ (λi=>bj.bx _ (rp gs.length b (.ptr 17 0 0 0) i)) _;rw[Oq];unfold rq;rw[if_neg O,if_neg O,if_neg O,if_neg O,if_neg O,if_pos O];rfl
      ·rw[if_neg O,vW O T U V W];rfl
  ·have hl:l<17+3*gs.length:=hl;have X:l≠15:=λe=>R 15 (by rw[fC nd,if_neg O,if_neg O];exactλe=>zG) (by rw[f 15 O];exact e.symm)
   have Y:l≠16:=λe=>R 16 (by rw[fC nd,if_neg O,if_neg O];exactλe=>zG) (by rw[f 16 O];exact e.symm)
   rw[ja,if_pos O,pu hl X Y,mz,if_neg Y,if_neg X]
 refine wpIn_mono (vT (SB:={Li q k F gs i with H:=wS q gs b}) (small b) (λl=>vV (f 14 zC) (f 15 zC) (by show _=t_ (nI _ 16) _ _;rw[f 16 zC]) l) A ⟨rfl,rfl⟩ ro n c ρ a w ap C hs P) λy a1 w1 hp=>?_
 obtain⟨rfl,s1,bd,l1,lp,r1⟩:=hp;obtain⟨bq,_,r2⟩:=r1.view (Jz l1 lp) (by show c.G<=17;rw[C];decide) (λl hl=>hl);obtain⟨I,hx,_,r3⟩:=sk (s:={t:=tG k F (.own 16 gs.length 1) (i:Int),nt:=86,H:=hG q 17 (AD gs.length (λj=>(aG gs j).key) b),df:=[]}) (SB':={t:=tG k F (.own (17+3*gs.length+3) (gs.length+1) 1) ((i:Int)+1),nt:=86,H:=AE q gs b x.key x,df:=[]}) P hs r2 a6 (λl=>vV (f 14 zC) (f 15 zC) (by show _=t_ (nI _ 20) _ _;rw[r 20 zC]) l) A ⟨rfl,rfl⟩;have back:∀l,l<gs.length->∀v,VR I (.addr (b l) 0) v->VR I (.ptr (17+3*l) 0 0 0) v:=λl hl v u=>by obtain⟨N,e⟩:=hb l hl;refine rl.2 ⟨b l,N,hx _ _ e,?_⟩;simpa only[VR]using u
 have Z:(AE q gs b x.key x).get 15= .dK (gs.length+1) (dC gs.length (λj=>(aG gs j).key) x.key) (uR gs.length b) (g_ (gs.length,.ptr (17+3*gs.length) 0 0 0)):=by rw[ja,if_pos O];unfold rq;rw[if_pos A]
 have a7:(AE q gs b x.key x).get (17+3*gs.length+3)= .rows (gs.length+1) 1 (rp gs.length b (.ptr (17+3*gs.length) 0 0 0)) (.ty 132):=by rw[ja,if_pos O];unfold rq;rw[if_neg O,if_neg O,if_neg O,if_neg O,if_neg O,if_pos A]
 have r4:=Lg (L:=17+3*gs.length+3) r3.heap O Z a7 (λl=>by unfold rp;cases a_ l gs.length<;>rfl) (λl hl=>by
   by_cases e:l=gs.length
   ·exact .inl (by rw[e])
   ·refine .inr λv u=>back l O v ?_
    unfold uR at u;rw[tE e]at u;exact u) λl hl v u=>by
   unfold rp at u;by_cases e:l=gs.length
   ·subst e;rw[qy]at u;exact(aV.aM.1 u).1
   ·rw[tE e]at u;exact back l O v (aV.aM.1 u).1
 have D:∀l,(((AE q gs b x.key x).set 15 (.dK (gs.length+1) (dC gs.length (λj=>(aG gs j).key) x.key) (λj=> .ptr (17+3*j) 0 0 0) m_)).set (17+3*gs.length+3) (.rows (gs.length+1) 1 qB (.ty 132))).get l=if l=17+3*gs.length+3 then .rows (gs.length+1) 1 qB (.ty 132)else if l=15 then .dK (gs.length+1) (dC gs.length (λj=>(aG gs j).key) x.key) (λj=> .ptr (17+3*j) 0 0 0) m_ else if l<17+3*gs.length+4 then rq q gs b x.key x l else .dead:=λl=>by rw[i_,i_,ja]
 have g:∀l,l<17+3*gs.length+3->l≠16->Gz (17+3*gs.length) l=l:=λl h h1=>by unfold Gz;rw[if_neg h1,if_pos h]
 have E:Gz (17+3*gs.length) 16=17+3*gs.length+3:=by unfold Gz;rw[if_pos A]
 have o:(gs++[x]).length=gs.length+1:=zA;have aa:r_ 16 (Gz (17+3*gs.length)) (((AE q gs b x.key x).set 15 (.dK (gs.length+1) (dC gs.length (λj=>(aG gs j).key) x.key) (λj=> .ptr (17+3*j) 0 0 0) m_)).set (17+3*gs.length+3) (.rows (gs.length+1) 1 qB (.ty 132))) (gk q (gs++[x])):=by
  refine⟨?_,λl hl=>g l O O,λl hl=>?_,λl=>?_,λl l' _ _ e _=>?_,λl hl=>Ax hl⟩
  ·show 16<=17+3*(gs++[x]).length;omega
  ·have hl:17+3*(gs++[x]).length<=l:=hl;rw[o]at hl;show 17+3*gs.length+4<=Gz _ l;unfold Gz;rw[if_neg O,if_neg O];omega
  ·rcases Ay (gs.length+1) l with h|rfl|rfl|rfl|⟨i',d,hi,p,rfl⟩|h
   ·refine .inr (.inl ?_);rw[nB h,g l O O,D,if_neg O,if_neg O,if_pos O,pu O O O,nB h];exact Lh (λj hj=>g j O O) l
   ·refine .inr (.inl ?_);rw[rm,g 14 O O,D,if_neg O,if_neg O,if_pos O,pu O O O,rm];exact⟨kN _ _,rfl⟩
   ·refine .inr (.inl ?_);rw[Aw,g 15 O O,D,if_neg O,if_pos A];refine⟨o.symm,λl hl=>?_,λl hl=>⟨(g _ O O).symm,rfl,rfl,rfl⟩,λ_ _ e=>zG⟩;show dC _ _ _ l=(aG (gs++[x]) l).key;rw[iS];unfold dC;by_cases h:l=gs.length
    ·rw[if_pos h,h,qy];rfl
    ·rw[if_neg h,tE h];rfl
   ·refine .inr (.inl ?_);rw[Cq,E,D,if_pos A];exact⟨o.symm,rfl,λl hl=>⟨⟨(g _ O O).symm,rfl,rfl,rfl⟩,trivial⟩,rfl⟩
   ·refine .inr (.inl ?_);rw[nZ (by rw[o];exact hi) p,iS];by_cases ad:i'=gs.length
    ·subst ad;rw[if_pos A]
     match d,p with
     |0,_=>rw[p_,g _ O O,D,if_neg O,if_neg O,if_pos O];unfold rq;rw[if_neg O,if_neg O,if_pos (p_ _)];exact⟨⟨⟨rfl,rfl,λi _=>lG _ _ i⟩,⟨(g _ O O).symm,hm.symm,rfl⟩,⟨(g _ O O).symm,hm.symm,rfl⟩,trivial⟩,rfl⟩
     |1,_=>rw[g _ O O,D,if_neg O,if_neg O,if_pos O];unfold rq;rw[if_neg O,if_neg O,if_neg O,if_pos A];exact⟨hm.symm,rfl,λi _=>sn _ _ _ _ i,rfl⟩
     |2,_=>rw[g _ O O,D,if_neg O,if_neg O,if_pos O];unfold rq;rw[if_neg O,if_neg O,if_neg O,if_neg O,if_pos A];exact⟨hm.symm,rfl,λi _=>lG _ _ i,rfl⟩
    ·rw[if_neg ad,g _ O O,D,if_neg O,if_neg O,if_pos O,pu O O O,nZ O p];exact Lj p λe=>⟨g _ O O,g _ O O⟩
   ·exact .inl (Ax (by rw[o];exact h))
  ·unfold Gz at e;split at e<;>split at e<;>(try split at e)<;>(try split at e)<;>omega
 have r5:=r4.view aa (by rw[C];decide) hE;refine⟨rfl,_,(jI.of hx).trans (aa.ext I),⟨r3.tmp.1,λl=>?_⟩,r5,r3.df⟩;refine VR.le _ _ _ ?_ (r3.tmp.2 l);show l_ _ (cR (tG k F (.own (17+3*gs.length+3) (gs.length+1) 1) ((i:Int)+1)) l) (cR (tG k F (.own 16 (gs++[x]).length 1) ((i:Int)+1)) l);rw[o];exact Tl (g 14 O O) (g 15 O O) (show l_ _ (.own (17+3*gs.length+3) (gs.length+1) 1) (.own 16 (gs.length+1) 1)from⟨E.symm,rfl,rfl⟩) l
def lH(q:Query)(gs:List bu)(i:Nat)(x:ao):List bu :=
 bif gn q x then
  match lL gs.length (λj=>(aG gs j).key) (Gy q x)with
  |some j=>gs.set j {key:=(aG gs j).key,W:=(aG gs j).W,m:=(aG gs j).m+1,L:=kz (aG gs j).L (aG gs j).m (qf q x),G:=kz (aG gs j).G (aG gs j).m (qg q x),C:=Cp (aG gs j).C (aG gs j).m (G9 q x),T:=kz (aG gs j).T (aG gs j).m (i:Int)}
  |none=>gs++[{key:=Gy q x,W:=bf q x,m:=1,L:=λ_=>qf q x,G:=λ_=>qg q x,C:=λ_=>G9 q x,T:=λ_=>(i:Int)}]
 else gs
def bI(q:Query)(F:Nat->ao):Nat->List bu
 |0=>[]
 |i+1=>lH q (bI q F i) i (F i)
def qi{n K ks j}(h:lL n K ks=g_ j):j<n/\K j=ks:=by
 unfold lL at h
 grind
def AF{n K ks}(h:lL n K ks=m_):∀j,j<n->K j≠ks:=λj a e=>by
 unfold lL at h
 grind
def JA{n K ks}(h:lL n K ks=m_):lL (n+1) (dC n K ks) ks=g_ n:=by
 unfold lL;rw[List.range_succ,List.find?_append];have:(b_ n).find? (λi=>dC n K ks i==ks)=m_:=by rw[List.find?_eq_none];intro i hi;have hi:=List.mem_range.1 hi;unfold dC;rw[tE O];simpa using AF h i hi
 rw[this];simp[dC]
structure Lk (gs:List bu) (i:Nat):Prop where
 len:gs.length<=i
 keys:∀a,a<gs.length->(aG gs a).key.length=3
 ms:∀a,a<gs.length->(aG gs a).m<=i
def ru(q)(F):∀i,Lk (bI q F i) i
 |0=>⟨dP _,λj a=>absurd a (by simp[bI]),λj a=>absurd a (by simp[bI])⟩
 |i+1=>by
  obtain⟨c,b,h3⟩:=ru q F i;show Lk (lH q (bI q F i) i (F i)) (i+1);unfold lH;cases gn q (F i)with
  |false=>exact⟨Y,b,Y⟩
  |true=>
   simp only[cond_true];split
   ·rename_i j a;obtain⟨a,_⟩:=qi a;refine⟨Y,λl hl=>?_,λl hl=>?_⟩
    ·rw[k_]at hl;rw[iR a]
     grind
    ·rw[k_]at hl;rw[iR a]
     grind
   ·refine⟨by simp;omega,λl hl=>?_,λl hl=>?_⟩
    ·rw[iS];by_cases h:l=(bI q F i).length
     ·rw[if_pos h];rfl
     grind
    ·rw[iS]
     grind
def GA{n K}(h:∀j,j<n->(K j).length=3):gz n K 3=true:=by
 unfold gz;simp_all
def ng3{q}(h:dl q=true):q.ng<=3:=by
 have:=(iQ h).2.2;unfold fx at this
 grind
def Ou(q)(k)(F)(i)(hi:i<k)(d:k<=1000000)(a:dl q=true)(e:bE (F i)=true):Av q k F (bI q F i) (bI q F (i+1)) i:=by
 show Av q k F (bI q F i) (lH q (bI q F i) i (F i)) i;obtain⟨p,l,h3⟩:=ru q F i;unfold lH;cases hp:gn q (F i)with
 |false=>exact Ol q k F _ i hi d a e hp
 |true=>
  simp only[cond_true];have m:=GA l;split
  ·rename_i j c;obtain⟨f,_⟩:=qi c;have g:AU (bI q F i).length (λj=>(aG (bI q F i) j).key) (Gy q (F i)) j=true:=by unfold AU;rw[c];exact qy j
   have r:=h3 j f;have a1:=Bool.and_eq_true_iff.2 ⟨m,g⟩;refine Tm q k F _ i j _ [kW q,sU q q.ng] f A A A λb=>?_
   exact On q k _ F _ b j _ _ _ _ _ _ i hi d O a (ng3 a) e hp a1
  ·rename_i c;have g:Uc (bI q F i).length (λj=>(aG (bI q F i) j).key) (Gy q (F i))=true:=by unfold Uc;rw[c]
   have n:AU ((bI q F i).length+1) (dC (bI q F i).length (λj=>(aG (bI q F i) j).key) (Gy q (F i))) (Gy q (F i)) (bI q F i).length=true:=by unfold AU;rw[JA c];exact qy _
   have o:gz ((bI q F i).length+1) (dC (bI q F i).length (λj=>(aG (bI q F i) j).key) (Gy q (F i))) 3=true:=GA λj f=>by
    unfold dC;by_cases h:j=(bI q F i).length
    ·rw[h,qy];rfl
    ·rw[tE h];exact l j O
   have a1:=Bool.and_eq_true_iff.2 ⟨m,g⟩;have a2:=Bool.and_eq_true_iff.2 ⟨o,n⟩;refine Tn q k F _ i _ [kW q,sU q q.ng] rfl λb=>?_
   exact Oo q k _ F _ b i hi d O a (ng3 a) e hp a1 a2
abbrev kgx(ks:List (ax PP II))(f key n0:Nat)(s a:St):Prop :=
 w7 ks (mO PP II []) 1000 false (.code (az II f key)) s {n:=λ_=>False,x:=λi b=>i=0/\oH n0 b a True,g:=λ_ _=>False,r:=λ_=>False,p:=λ_ _=>False}
def Wg(q)(k)(F)(n)(i){b}(c:b=[AV.ae q.nw 3 (av q.C),AV.ae q.ng 1 (aN q.G),u_ f_ q.a,u_ f_ q.fl,AV.str q.nu,AV.str q.de,u_ f_ q.top]):(kgx [kW q,sU q 0] 63 4001 17 (wR q k F 0 0 0 (.own 16 n 1) i false) (wR q k F 0 0 0 (.own 16 n 1) i false))=(ak (h_ (i<e_ k)) (B (h_ (0<=i)&&h_ (i<e_ k)) (B (sE q b&&dl q&&bE (F i.toNat)) (ak (!gn q (F i.toNat)) (B (aJ f_ (i+1)) False) (B (sE q b&&dl q&&bE (F i.toNat)&&a_ q.ng 0) False)))) (0=0/\zyN q.nw (zyR q.nw (av q.C) (zyN q.ng (zyR q.ng (aN q.G) (zyI q.a (zyI q.fl (zyB q.nu (zyB q.de (zyI q.top (zyB [48] (zyB [49] (zyR 5 aC (zyN k ((an k (λi=>aB (F i)) λi=>aB (F i))/\zyI i (zyI (e_ k) (zyN n True))))))))))))))))):=by subst_vars;kernel_rfl
def Ov(q)(k)(F)(n i)(hi:k<=i):kgx [kW q,sU q 0] 63 4001 17 (wR q k F 0 0 0 (.own 16 n 1) (i:Int) false) (wR q k F 0 0 0 (.own 16 n 1) (i:Int) false):=by
 rw[Wg _ _ _ _ _ A];have fl:=nA k F;have a:e_ k=(k:Int):=rfl;refine aaA O (λ_=>?_)
 repeat' (first|with_reducible refine aag A ?_|with_reducible refine aan A ?_|with_reducible refine aaY A ?_|with_reducible refine And.intro ?_ ?_|with_reducible exact cM _ _|with_reducible exact dJ _ _|with_reducible exact bV|grind|simp|rfl)
section
def AG(g:Nat)(x:bu):List AV:=[.ae g 1 (ah x.W),.ae x.m 3 (bw x.L x.G x.C),.ae x.m 1 (ah x.T)]
theorem Ow(W)(n):((b_ n).all λi=>bj.free (ah W i))=true:=List.all_eq_true.2 λ_ _=>rfl
theorem JB(L G)(C)(n):((b_ n).all λi=>bj.free (bw L G C i))=true:=List.all_eq_true.2 λ_ _=>rfl
section
variable {R:Type} (X:RI R)
theorem Wh{d H H1 l k e j cs ac}(K)(b:od H l=g_ H1)(c:H1.get l= .cells cs ac):tK X (d+1) (.ptr l k e j) H K=kJ X d cs H1 λa H2=>K (.bW a (k*e+j)) H2:=by
 simp only[tK]
 grind
theorem Eb{d H H1 l n m e f ac}(K)(a:od H l=g_ H1)(b:H1.get l= .rows n e f ac):tK X (d+1) (.own l m e) H K=X.ag (((b_ n).all λi=>bj.free (f i))&&h_ (m<=n)) (K (.ae m e f) H1):=by
 simp only[tK]
 grind
theorem Zd{d H n e f}(K):tK X (d+1) (.ae n e f) H K=K (.ae n e f) H:=by
 simp only[tK]
theorem vX{d H a cs}(K):kJ X (d+1) (a::cs) H K=tK X d a H λx H1=>kJ X d cs H1 λb H2=>K (x::b) H2:=by
 simp only[kJ]
theorem To{d H}(K):kJ X (d+1) [] H K=K [] H:=by
 simp only[kJ]
end
theorem Ox{H H1 H2 a l l1 l2 g m w f s a0 a1 a2}{d:Nat}(b:od H l=g_ H1)(c:H1.get l= .cells [.ae g 1 w,.own l1 m 3,.own l2 m 1] a0)(e:od H1 l1=g_ H2)(g1:H2.get l1= .rows m 3 f a1)(j:od H2 l2=g_ a)(g2:a.get l2= .rows m 1 s a2)
  (n:((b_ m).all λi=>bj.free (f i))=true) (o:((b_ m).all λi=>bj.free (s i))=true):kc (.ptr l 0 0 0) H (.bW [.ae g 1 w,.ae m 3 f,.ae m 1 s] 0) a:=by
 have h:tK RI.l3 (d+6) (.ptr l 0 0 0) H (λa' H'=>a'= .bW [.ae g 1 w,.ae m 3 f,.ae m 1 s] 0/\H'=a):=by rw[Wh RI.l3 _ b c,vX,Zd,vX,Eb RI.l3 _ e g1];refine ZF Y ?_;rw[vX,Eb RI.l3 _ j g2];refine ZF Y ?_;rw[To];exact⟨rfl,rfl⟩
 obtain⟨a',H',⟨rfl,rfl⟩,k⟩:=lz (sem:=id) RI.dX (d+6) (.ptr l 0 0 0) H _ h;exact k
theorem Tp{H l g x}(a:H.get l=nY x g l 0)(b:H.get (l+1)=nY x g l 1)(c:H.get (l+2)=nY x g l 2):
  kc (.ptr l 0 0 0) H (.bW (AG g x) 0) (((H.set l (.cells [.ae g 1 (ah x.W),.own (l+1) x.m 3,.own (l+2) x.m 1] .ro)).set (l+1) (.rows x.m 3 (bw x.L x.G x.C) .ro)).set (l+2) (.rows x.m 1 (ah x.T) .ro)):=by
 refine Ox (d:=0) (H1:=H.set l (.cells [.ae g 1 (ah x.W),.own (l+1) x.m 3,.own (l+2) x.m 1] .ro)) (H2:=(H.set l (.cells [.ae g 1 (ah x.W),.own (l+1) x.m 3,.own (l+2) x.m 1] .ro)).set (l+1) (.rows x.m 3 (bw x.L x.G x.C) .ro)) ?_ (n_ _ _ _) ?_ (n_ _ _ _) ?_ (n_ _ _ _) (JB _ _ _ _) (Ow _ _)
 ·unfold od;rw[a];rfl
 ·unfold od;rw[i_,if_neg O,b];rfl
 ·unfold od;rw[i_,if_neg O,i_,if_neg O,c];rfl
end
end
end Go.Sx
