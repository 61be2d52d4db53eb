/- The proof of a statement of the seat, part 12. -/
import Derived.Test.YtoijalagmmgkbaaGreatDoorX11
set_option linter.all false
set_option linter.defProp false
set_option maxRecDepth 1000000
namespace Go.Sx
open Go
open Int renaming ofNat->M,natCast_nonneg->c_,toNat_natCast->l_
open Decidable renaming decide->z
open AH renaming blank->a_
open Bool renaming not_eq_false'->b_,not_eq_true'->d_
open Nat renaming ble->e_,zero_le->h_,blt->i_,div_eq_of_lt->m_,beq->o_,div_one->p_
open Go.IntKind renaming i64->f_
open List renaming take->j_,drop->k_
noncomputable section
def dZ{p q}(a:p=true)(b:q=true):(p&&q)=true:=by rw[a,b];rfl
def dG(W)(n):an n (ae W) (ae W):=Zj λ_ _=>ep _ _ _
def mL(f g):an 0 f g:=λi hi=>absurd hi (lZ i)
def jT{i W y}(h:y=W i):an (i+1) (λa=>bif i_ a i then ae W a else j_ 1 (k_ (0+(a-i)*1) [AV.int f_ y])) (ae W):=λj b σ=>by
 show bt.le σ (bif i_ j i then ae W j else j_ 1 (k_ (0+(j-i)*1) [AV.int f_ y])) (ae W j)
 cases c:i_ j i with
 |true=>exact ep _ _ _
 |false=>
  have:j=i:=by
   have :¬ j<i:=λe=>by rw[<-Nat.blt_eq]at e;grind
   omega
  subst this
  rw[Nat.sub_self,h]
  exact ep _ _ _
def jl{W y}(h:y=W 0):an 1 (λi=>bif i_ i 0 then ae W (0+i)else j_ 1 (k_ (0+(i-0)*1) [AV.int f_ y])) (ae W):=λj a σ=>by
 have:j=0:=O
 subst this
 rw[h]
 exact ep _ _ _
def It{k m N L a d W D C}(H:lu N L D W C)(x:∀i,bx k (ae a) (M i)+bx m (ae d) (M i)=D i):aE PP II false (aD II 160 3007) 15 (l7 161 (qc k a) (qc m d) N W C (false,0,0)) (iq N W L):=
 aE.of (ι:=Bool×Nat×Int) iw [rz] (bm PP II []) 1000 15 (λi=>(i.1=false->i=(false,0,0))/\(i.1=true->1<=i.2.1/\i.2.2=M i.2.1)/\i.2.1<=L) (l7 161 (qc k a) (qc m d) N W C) (λ_=>iq N W L) (λi=>L-i.2.1) (λi=>(true,i.2.1+1,i.2.2+1)) (false,0,0) A
  ⟨λ_=>rfl,(λh=>zE),h_ _⟩ λi hi=>by
  obtain⟨E,i,j⟩:=i
  obtain⟨F,q,o⟩:=hi
  change i<=L at o
  have hn:=H.n
  have hl:=H.l
  cases E with
  |false=>
   cases F rfl
   have s:bx k (ae a) 0+bx m (ae d) 0=D 0:=x 0
   refine(Es k m N L a d W C _ A).mpr ?_
   rw[s]
   have p:0<L->((true=false->(true,0+1,(0:Int)+1)=(false,0,0))/\(true=true->1<=0+1/\(0:Int)+1=M (0+1))/\0+1<=L)/\L-(0+1)<L-0/\(iq N W L).pick=(iq N W L).pick:=λhi=>Y
   refine Zh (λh=>?_) (λh=>Zh (λq=>?_) (λq=>?_))
   rotate_left 2
   ·have:L=0:=(H.stop 0 o ZD (by simpa using q)).symm
    subst this
    exact Zh (λ_=>⟨mL _ _,YG A trivial⟩) (λe=>zG)
   all_goals
    have hi:0<L:=by first|exact H.TI 0 o (by simpa using q)|exact H.TH 0 Y
    have G:=H.db 0 hi
    have t:=H.b 0 hi
    have g:=mJ t.1 (H.w 0 hi) (H.c 0 hi)
    have r:=p hi
    refine Ze zA (Ze zA (Ze zA ?_))
    refine Ze (aq O O) (Ze (aq O O) (Zh (λhx=>Ze (aq O O) (Zh (λ_=>?_) λ_=>?_)) (λhx=>Zh (λf=>Ze (aq Y Y) (Zh (λ_=>?_) λ_=>?_)) (λf=>Zh (λ_=>?_) λ_=>?_))))
    all_goals simp only[bn,iK]at hx
    all_goals(try simp only[bn,iK]at f)
    all_goals refine Ze (by rfl) ⟨?_,?_⟩
    all_goals first|exact jl (g.1 hx).1|exact jl (g.2.1 f).2|exact jl (g.2.2 hx f).1|(refine YG A ⟨dG _ _,YG A ⟨dG _ _,?_⟩⟩);first|exact Zf (g.1 hx).2 (Zf A r)|exact Zf (g.2.1 f).1 (Zf A r)|exact Zf (g.2.2 hx f).2 (Zf A r)
  |true=>
   obtain⟨u,y⟩:=q rfl
   change 1<=i at u
   change j=M i at y
   subst y
   refine(Et k m N L i (M i) a d W C _ A).mpr ?_
   rw[x i]
   have p:i<L->((true=false->(true,i+1,M i+1)=(false,0,0))/\(true=true->1<=i+1/\M i+1=M (i+1))/\i+1<=L)/\L-(i+1)<L-i/\(iq N W L).pick=(iq N W L).pick:=λhi=>Y
   have v:aN f_ (M i+1)=true:=aq Y Y
   have I:(0:Int)<=M i:=c_ i
   refine Zh (λh=>?_) (λh=>Zh (λq=>?_) (λq=>?_))
   rotate_left 2
   ·have:i=L:=H.stop i o ZD (by simpa using q)
    subst this
    refine Zh (λJ=>?_) λ_=>YG A ⟨dG _ _,YG A trivial⟩
    simp_all
   all_goals
    have hi:i<L:=by first|exact H.TI i o (by simpa using q)|exact H.TH i Y
    have G:=H.db i hi
    have t:=H.b i hi
    have g:=mJ t.1 (H.w i hi) (H.c i hi)
    have r:=p hi
    have cap:(z (i<=i)&&true&&true&&z ((i+1)*8<=140737488355328)&&true)=true:=by simp;omega
    refine Ze zA (Ze zA (Ze zA ?_))
    refine Ze (aq O O) (Ze (aq O O) (Zh (λhx=>Ze (aq O O) (Ze cap (Ze v ?_))) (λhx=>Zh (λf=>Ze (aq Y Y) (Ze cap (Ze v ?_))) (λf=>Ze cap (Ze v ?_)))))
    all_goals simp only[bn,iK]at hx
    all_goals(try simp only[bn,iK]at f)
    all_goals refine YG A ⟨?_,?_⟩
    all_goals first|exact jT (g.1 hx).1|exact jT (g.2.1 f).2|exact jT (g.2.2 hx f).1|(refine YG A ⟨dG _ _,YG A ⟨dG _ _,?_⟩⟩);refine YG A ?_;first|exact Zf (g.1 hx).2 (Zf A (Zf A r))|exact Zf (g.2.1 f).1 (Zf A (Zf A r))|exact Zf (g.2.2 hx f).2 (Zf A (Zf A r))
def Eu{k m N L a d W D C}(H:lu N L D W C)(x:∀i,bx k (ae a) (M i)-bx m (ae d) (M i)=D i):aE PP II false (aD II 160 3007) 15 (l7 163 (qc k a) (qc m d) N W C (false,0,0)) (iq N W L):=
 aE.of (ι:=Bool×Nat×Int) iw [rz] (bm PP II []) 1000 15 (λi=>(i.1=false->i=(false,0,0))/\(i.1=true->1<=i.2.1/\i.2.2=M i.2.1)/\i.2.1<=L) (l7 163 (qc k a) (qc m d) N W C) (λ_=>iq N W L) (λi=>L-i.2.1) (λi=>(true,i.2.1+1,i.2.2+1)) (false,0,0) A
  ⟨λ_=>rfl,(λh=>zE),h_ _⟩ λi hi=>by
  obtain⟨E,i,j⟩:=i
  obtain⟨F,q,o⟩:=hi
  change i<=L at o
  have hn:=H.n
  have hl:=H.l
  cases E with
  |false=>
   cases F rfl
   have s:bx k (ae a) 0-bx m (ae d) 0=D 0:=x 0
   refine(BU k m N L a d W C _ A).mpr ?_
   rw[s]
   have p:0<L->((true=false->(true,0+1,(0:Int)+1)=(false,0,0))/\(true=true->1<=0+1/\(0:Int)+1=M (0+1))/\0+1<=L)/\L-(0+1)<L-0/\(iq N W L).pick=(iq N W L).pick:=λhi=>Y
   refine Zh (λh=>?_) (λh=>Zh (λq=>?_) (λq=>?_))
   rotate_left 2
   ·have:L=0:=(H.stop 0 o ZD (by simpa using q)).symm
    subst this
    exact Zh (λ_=>⟨mL _ _,YG A trivial⟩) (λe=>zG)
   all_goals
    have hi:0<L:=by first|exact H.TI 0 o (by simpa using q)|exact H.TH 0 Y
    have G:=H.db 0 hi
    have t:=H.b 0 hi
    have g:=mJ t.1 (H.w 0 hi) (H.c 0 hi)
    have r:=p hi
    refine Ze zA (Ze zA (Ze zA ?_))
    refine Ze (aq O O) (Ze (aq O O) (Zh (λhx=>Ze (aq O O) (Zh (λ_=>?_) λ_=>?_)) (λhx=>Zh (λf=>Ze (aq Y Y) (Zh (λ_=>?_) λ_=>?_)) (λf=>Zh (λ_=>?_) λ_=>?_))))
    all_goals simp only[bn,iK]at hx
    all_goals(try simp only[bn,iK]at f)
    all_goals refine Ze (by rfl) ⟨?_,?_⟩
    all_goals first|exact jl (g.1 hx).1|exact jl (g.2.1 f).2|exact jl (g.2.2 hx f).1|(refine YG A ⟨dG _ _,YG A ⟨dG _ _,?_⟩⟩);first|exact Zf (g.1 hx).2 (Zf A r)|exact Zf (g.2.1 f).1 (Zf A r)|exact Zf (g.2.2 hx f).2 (Zf A r)
  |true=>
   obtain⟨u,y⟩:=q rfl
   change 1<=i at u
   change j=M i at y
   subst y
   refine(BV k m N L i (M i) a d W C _ A).mpr ?_
   rw[x i]
   have p:i<L->((true=false->(true,i+1,M i+1)=(false,0,0))/\(true=true->1<=i+1/\M i+1=M (i+1))/\i+1<=L)/\L-(i+1)<L-i/\(iq N W L).pick=(iq N W L).pick:=λhi=>Y
   have v:aN f_ (M i+1)=true:=aq Y Y
   have I:(0:Int)<=M i:=c_ i
   refine Zh (λh=>?_) (λh=>Zh (λq=>?_) (λq=>?_))
   rotate_left 2
   ·have:i=L:=H.stop i o ZD (by simpa using q)
    subst this
    refine Zh (λJ=>?_) λ_=>YG A ⟨dG _ _,YG A trivial⟩
    simp_all
   all_goals
    have hi:i<L:=by first|exact H.TI i o (by simpa using q)|exact H.TH i Y
    have G:=H.db i hi
    have t:=H.b i hi
    have g:=mJ t.1 (H.w i hi) (H.c i hi)
    have r:=p hi
    have cap:(z (i<=i)&&true&&true&&z ((i+1)*8<=140737488355328)&&true)=true:=by simp;omega
    refine Ze zA (Ze zA (Ze zA ?_))
    refine Ze (aq O O) (Ze (aq O O) (Zh (λhx=>Ze (aq O O) (Ze cap (Ze v ?_))) (λhx=>Zh (λf=>Ze (aq Y Y) (Ze cap (Ze v ?_))) (λf=>Ze cap (Ze v ?_)))))
    all_goals simp only[bn,iK]at hx
    all_goals(try simp only[bn,iK]at f)
    all_goals refine YG A ⟨?_,?_⟩
    all_goals first|exact jT (g.1 hx).1|exact jT (g.2.1 f).2|exact jT (g.2.2 hx f).1|(refine YG A ⟨dG _ _,YG A ⟨dG _ _,?_⟩⟩);refine YG A ?_;first|exact Zf (g.1 hx).2 (Zf A (Zf A r))|exact Zf (g.2.1 f).1 (Zf A (Zf A r))|exact Zf (g.2.2 hx f).2 (Zf A (Zf A r))
def PZ{k N L b a W D C}(H:lu N L D W C)(u:∀i,bx k (ae a) (M i)*b=D i):aE PP II false (aD II 160 3007) 15 (l7 213 (qc k a) (Vi b) N W C (false,0,0)) (iq N W L):=
 aE.of (ι:=Bool×Nat×Int) iw [rz] (bm PP II []) 1000 15 (λi=>(i.1=false->i=(false,0,0))/\(i.1=true->1<=i.2.1/\i.2.2=M i.2.1)/\i.2.1<=L) (l7 213 (qc k a) (Vi b) N W C) (λ_=>iq N W L) (λi=>L-i.2.1) (λi=>(true,i.2.1+1,i.2.2+1)) (false,0,0) A
  ⟨λ_=>rfl,(λh=>zE),h_ _⟩ λi hi=>by
  obtain⟨x,i,j⟩:=i
  obtain⟨y,o,g⟩:=hi
  change i<=L at g
  have hn:=H.n
  have hl:=H.l
  cases x with
  |false=>
   cases y rfl
   have q:bx k (ae a) 0*b=D 0:=u 0
   refine(LA k N L b a W C _ A).mpr ?_
   rw[q]
   have m:0<L->((true=false->(true,0+1,(0:Int)+1)=(false,0,0))/\(true=true->1<=0+1/\(0:Int)+1=M (0+1))/\0+1<=L)/\L-(0+1)<L-0/\(iq N W L).pick=(iq N W L).pick:=λhi=>Y
   refine Zh (λh=>?_) (λh=>Zh (λo=>?_) (λo=>?_))
   rotate_left 2
   ·have:L=0:=(H.stop 0 g ZD (by simpa using o)).symm
    subst this
    exact Zh (λ_=>⟨mL _ _,YG A trivial⟩) (λe=>zG)
   all_goals
    have hi:0<L:=by first|exact H.TI 0 g (by simpa using o)|exact H.TH 0 Y
    have E:=H.db 0 hi
    have r:=H.b 0 hi
    have f:=mJ r.1 (H.w 0 hi) (H.c 0 hi)
    have p:=m hi
    refine Ze zA (Ze zA ?_)
    refine Ze (aq O O) (Ze (aq O O) (Zh (λhx=>Ze (aq O O) (Zh (λ_=>?_) λ_=>?_)) (λhx=>Zh (λd=>Ze (aq Y Y) (Zh (λ_=>?_) λ_=>?_)) (λd=>Zh (λ_=>?_) λ_=>?_))))
    all_goals simp only[bn,iK]at hx
    all_goals(try simp only[bn,iK]at d)
    all_goals refine Ze (by rfl) ⟨?_,?_⟩
    all_goals first|exact jl (f.1 hx).1|exact jl (f.2.1 d).2|exact jl (f.2.2 hx d).1|(refine Zf A (YG A ⟨dG _ _,?_⟩));first|exact Zf (f.1 hx).2 (Zf A p)|exact Zf (f.2.1 d).1 (Zf A p)|exact Zf (f.2.2 hx d).2 (Zf A p)
  |true=>
   obtain⟨s,v⟩:=o rfl
   change 1<=i at s
   change j=M i at v
   subst v
   refine(LB k N L i b (M i) a W C _ A).mpr ?_
   rw[u i]
   have m:i<L->((true=false->(true,i+1,M i+1)=(false,0,0))/\(true=true->1<=i+1/\M i+1=M (i+1))/\i+1<=L)/\L-(i+1)<L-i/\(iq N W L).pick=(iq N W L).pick:=λhi=>Y
   have t:aN f_ (M i+1)=true:=aq Y Y
   have F:(0:Int)<=M i:=c_ i
   refine Zh (λh=>?_) (λh=>Zh (λo=>?_) (λo=>?_))
   rotate_left 2
   ·have:i=L:=H.stop i g ZD (by simpa using o)
    subst this
    refine Zh (λG=>?_) λ_=>YG A ⟨dG _ _,YG A trivial⟩
    simp_all
   all_goals
    have hi:i<L:=by first|exact H.TI i g (by simpa using o)|exact H.TH i Y
    have E:=H.db i hi
    have r:=H.b i hi
    have f:=mJ r.1 (H.w i hi) (H.c i hi)
    have p:=m hi
    have cap:(z (i<=i)&&true&&true&&z ((i+1)*8<=140737488355328)&&true)=true:=by simp;omega
    refine Ze zA (Ze zA ?_)
    refine Ze (aq O O) (Ze (aq O O) (Zh (λhx=>Ze (aq O O) (Ze cap (Ze t ?_))) (λhx=>Zh (λd=>Ze (aq Y Y) (Ze cap (Ze t ?_))) (λd=>Ze cap (Ze t ?_)))))
    all_goals simp only[bn,iK]at hx
    all_goals(try simp only[bn,iK]at d)
    all_goals refine YG A ⟨?_,?_⟩
    all_goals first|exact jT (f.1 hx).1|exact jT (f.2.1 d).2|exact jT (f.2.2 hx d).1|(refine Zf A (YG A ⟨dG _ _,?_⟩));refine YG A ?_;first|exact Zf (f.1 hx).2 (Zf A (Zf A p))|exact Zf (f.2.1 d).1 (Zf A (Zf A p))|exact Zf (f.2.2 hx d).2 (Zf A (Zf A p))
def bZ(v):numOf (ar v) (aG v)=v:=kY (dw _)
def wi{N V:Nat}(a:V<10000^(N+1))(b:N<=100000){Q:AV->Prop}(hQ:Q (.ab (ar V) 1 (aG V))):
  (ah (o_ (fi N V) 0) (B ((cO 0 λi=>ae (aO V) (0+i))&&true) (Q (AV.ab (ar (numOf 0 λi=>ae (aO V) (0+i))) 1 (aG (numOf 0 λi=>ae (aO V) (0+i))))))
   (B ((List.all (List.range.loop (fi N V) []) λ_=>true)&&z (fi N V<=fi N V)) (B (cO (fi N V) (ae (aO V))&&e_ (fi N V) 1000000) (Q (AV.ab (ar (numOf (fi N V) (ae (aO V)))) 1 (aG (numOf (fi N V) (ae (aO V))))))))):=by
 have hl:=Ly a
 have c:fi N V<=100001:=by unfold fi;split<;>omega
 refine Zh (λh=>Ze A ?_) (λ_=>Ze zA (Ze (dZ (cM _ V) (kV O)) ?_))
 ·have d:fi N V=0:=by simp_all
  have:V=0:=by have:=cN.1 (O:ar V<=0);simpa using this
  subst this
  exact hQ
 ·have:numOf (fi N V) (ae (aO V))=V:=kY hl
  rw[this];exact hQ
def P0{a b k m}(ha:ar a<=k)(c:ar b<=m)(i):bx k (ae (aO a)) (M i)+bx m (ae (aO b)) (M i)=M (bF a i)+M (bF b i):=by
 have d:bx k (ae (aO a)) (M i)=M (bF a i):=oz ha
 have e:bx m (ae (aO b)) (M i)=M (bF b i):=oz c
 rw[d,e]
def P1{a b k m}(ha:ar a<=k)(c:ar b<=m)(d:k<=90000)(f:m<=90000):af PP II 108 [.ab k 1 (aG a),.ab m 1 (aG b)] (a_ 12) (.ret (.ab (ar (a+b)) 1 (aG (a+b))) (a_ 12)):=by
 have e:(if M m>M k then M m else M k)=M (max k m):=by
  by_cases h:M m>M k
  ·grind
  ·grind
 have g:max k m<=90000:=O
 generalize j:max k m=N at*
 refine bY (T:=[(3007,15,l7 161 (qc k (aO a)) (qc m (aO b)) N (aO (a+b)) (fu λi=>M (bF a i)+M (bF b i)) (false,0,0),iq N (aO (a+b)) (fi N (a+b)))]) (λ_=>⟨rfl,rfl,λ_ _=>cn _ _ _⟩) ((PY k m N (fi N (a+b)) (aO a) (aO b) (aO (a+b)) _ _ A).mpr ?_)
 rw[e]
 have f1:M N+1=((N+1:Nat):Int):=rfl
 rw[f1]
 refine Ze (aq O O) (Ze ZF ⟨It (Ip O O O) λi=>P0 ha c i,mL _ _,YG A ⟨dG _ _,YG A ⟨dG _ _,YG O (Zf (carry_zero _).symm (Zf A (wi (V:=a+b) (Q:=λx=>x= .ab (ar (a+b)) 1 (aG (a+b))) (TJ O O) O A)))⟩⟩⟩)
def YA:aC PP II:=aC.pure 108
 (λX args a=>match args with
  |[.ab k 1 f,.ab m 1 g]=>X.ak (cO k f&&cO m g&&e_ k 90000&&e_ m 90000) (a (.ab (ar (numOf k f+numOf m g)) 1 (aG (numOf k f+numOf m g))))
  |_=>X.fail)
 λX sem hX args a h=>by
  split at h
  ·obtain⟨b,c⟩:=hX.ak _ _ h
   simp only[bf]at b
   obtain⟨⟨⟨a1,a2⟩,d⟩,a4⟩:=b
   exact⟨_,c,λ_=>rfl,λ_=>rfl,(P1 (eh _ _ (j7 a1).1) (eh _ _ (j7 a2).1) ZD ZD).dq ⟨gT a1,gT a2,trivial⟩⟩
  ·exact zR
def LC{a b k m}(ha:ar a<=k)(c:ar b<=m)(i):bx k (ae (aO a)) (M i)-bx m (ae (aO b)) (M i)=M (bF a i)-M (bF b i):=by
 have d:bx k (ae (aO a)) (M i)=M (bF a i):=oz ha
 have e:bx m (ae (aO b)) (M i)=M (bF b i):=oz c
 rw[d,e]
def LD{a b k m}(c:b<=a)(ha:ar a<=k)(d:ar b<=m)(e:k<=90000):af PP II 110 [.ab k 1 (aG a),.ab m 1 (aG b)] (a_ 12) (.ret (.ab (ar (a-b)) 1 (aG (a-b))) (a_ 12)):=by
 refine bY (T:=[(3007,15,l7 163 (qc k (aO a)) (qc m (aO b)) k (aO (a-b)) (fu λi=>M (bF a i)-M (bF b i)) (false,0,0),iq k (aO (a-b)) (fi k (a-b)))]) (λ_=>⟨rfl,rfl,λ_ _=>cn _ _ _⟩) ((Lz k m k (fi k (a-b)) (aO a) (aO b) (aO (a-b)) _ _).mpr ?_)
 have f1:M k+1=((k+1:Nat):Int):=rfl
 rw[f1]
 refine Ze (aq O O) (Ze ZF ⟨Eu (Eo c ha O) λi=>LC ha d i,mL _ _,YG A ⟨dG _ _,YG A ⟨dG _ _,YG O (Zf (carry_zero _).symm (Zf A (wi (V:=a-b) (Q:=λx=>x= .ab (ar (a-b)) 1 (aG (a-b))) (PW ha) O A)))⟩⟩⟩)
def Aj:aC PP II:=aC.pure 110
 (λX args a=>match args with
  |[.ab k 1 f,.ab m 1 g]=>X.ak (cO k f&&cO m g&&e_ (numOf m g) (numOf k f)&&e_ k 90000) (a (.ab (ar (numOf k f-numOf m g)) 1 (aG (numOf k f-numOf m g))))
  |_=>X.fail)
 λX sem hX args a h=>by
  split at h
  ·obtain⟨b,c⟩:=hX.ak _ _ h
   simp only[bf]at b
   obtain⟨⟨⟨a1,a2⟩,d⟩,a4⟩:=b
   exact⟨_,c,λ_=>rfl,λ_=>rfl,(LD ZD (eh _ _ (j7 a1).1) (eh _ _ (j7 a2).1) ZD).dq ⟨gT a1,gT a2,trivial⟩⟩
  ·exact zR
def Wn{a n k:Nat}(hn:n<10000)(ha:ar a<=k)(b:k<=90000):af PP II 157 [.ab k 1 (aG a),.int f_ n] (a_ 12) (.ret (.ab (ar (a*n)) 1 (aG (a*n))) (a_ 12)):=by
 refine bY (T:=[(3007,15,l7 213 (qc k (aO a)) (Vi n) k (aO (a*n)) (fu λi=>M (bF a i)*(n:Int)) (false,0,0),iq k (aO (a*n)) (fi k (a*n)))]) (λ_=>⟨rfl,rfl,λ_ _=>cn _ _ _⟩) ((Wm k k (fi k (a*n)) n (aO a) (aO (a*n)) _ _).mpr ?_)
 have f1:M k+1=((k+1:Nat):Int):=rfl
 rw[f1]
 refine Ze (aq O O) (Ze ZF ⟨PZ (PV hn ha O) λi=>by rw[show bx k (ae (aO a)) (M i)=M (bF a i)from oz ha],mL _ _,Zf A (YG A ⟨dG _ _,YG O (Zf (carry_zero _).symm (Zf A (wi (V:=a*n) (Q:=λx=>x= .ab (ar (a*n)) 1 (aG (a*n))) (Ai hn ha) O A)))⟩)⟩)
def SD:aC PP II:=aC.pure 157
 (λX args a=>match args with
  |[.ab k 1 f,.int f_ n]=>X.ak (cO k f&&z (0<=n)&&z (n<10000)&&e_ k 90000) (a (.ab (ar (numOf k f*n.toNat)) 1 (aG (numOf k f*n.toNat))))
  |_=>X.fail)
 λX sem hX args a h=>by
  split at h
  ·rename_i n
   obtain⟨b,c⟩:=hX.ak _ _ h
   simp only[bf,bn]at b
   obtain⟨⟨⟨a1,a2⟩,d⟩,a4⟩:=b
   refine⟨_,c,λ_=>rfl,λ_=>rfl,?_⟩
   exact(Wn (n:=n.toNat) O (eh _ _ (j7 a1).1) ZD).dq ⟨gT a1,⟨rfl,(Int.toNat_of_nonneg a2).symm⟩,trivial⟩
  ·exact zR
def TK(k m:Nat)(a b:Nat->Int)(r:Int)(c:LoopState)(d:Option Code):AH:={n:=17,t:=Tr.ofList [(12,qc m b),(13,.cells [.int f_ r] (.ty 3)),(14,qc k a),(15,.tE),(16,.loop c d (Tr.ofList [(3,.ptr 12 0 0 0),(4,.ptr 13 0 0 0)]) 33 [19,20] (bg II 112) (bh II 112) 15)]}
def Iu(k m:Nat)(a b:Nat->Int)(j:Int):St:={t:=Tr.ofList [(0,.yield 16),(1,.ptr 14 0 0 0),(3,.int f_ j)],nt:=19,H:=TK k m a b 0 .ready none,df:=[]}
def Iv(k m:Nat)(a c:Nat->Int)(b:Bool)(r:Int):GE:=.cond b (.one (.r {t:=.e,nt:=19,H:=TK k m a c r .done (some .ret),df:=[]})) (.one (.x 0 {t:=.e,nt:=19,H:=TK k m a c 0 .ready none,df:=[]}))
def Iw(k m)(a c)(b)(r j)(Q):(kr [ov] [] 212 1002 17 (Iu k m a c) (λ_=>Iv k m a c b r) (λj=>j-1) Q j)=(ah (z (j>=0)) (B (z (0<=j)&&z (j<M k)) (B (z (0<=j)&&z (j<M m)) (ah (!decide (a j.toNat=c j.toNat)) (B (z (0<=j)&&z (j<M m)) (ah b (aT Code.ret Code.ret/\aT (bg II 112) (bg II 112)/\aT (bh II 112) (bh II 112)/\zyN k (zyR k (ae a) (aH (sP (a j.toNat) (c j.toNat)) r (zyN m (zyR m (ae c) True))))) False)) (B (aN f_ (j-1)) (aT (bg II 112) (bg II 112)/\aT (bh II 112) (bh II 112)/\zyN k (zyR k (ae a) (zyN m (zyR m (ae c) (zyI (j-1) Q))))))))) (ah b False (aT (bg II 112) (bg II 112)/\aT (bh II 112) (bh II 112)/\zyN k (zyR k (ae a) (zyN m (zyR m (ae c) True)))))):=U
def P2(k m)(a c)(b)(r)(Q):(kb [ov] [(1002,17,Iu k m a c (M k-1),Iv k m a c b r)] 112 [.ab k 1 (ae a),.ab m 1 (ae c)] Q)=(ah (!decide (M k=M m)) (Q (AV.int f_ (sP (M k) (M m)))) (B (aN f_ (M k-1)) (aE PP II false (aD II 212 1002) 17 (Iu k m a c (M k-1)) (Iv k m a c b r)/\aT (bg II 112) (bg II 112)/\aT (bh II 112) (bh II 112)/\zyN k (zyR k (ae a) (zyN m (zyR m (ae c) (zyI (M k-1) (ah b (Q (AV.int f_ r)) (Q (AV.int f_ 0)))))))))):=U
def BW(x y):sP (M x) (M y)=dU x y:=by
 unfold sP dU
 simp
def Ix{a b}(l:ar a=ar b)(hl:ar a<=1000000):aE PP II false (aD II 212 1002) 17 (Iu (ar a) (ar b) (aO a) (aO b) (M (ar a)-1)) (Iv (ar a) (ar b) (aO a) (aO b) (!decide (a=b)) (dU a b)):=
 aE.of (ι:=Int) iw [ov] (bm PP II []) 1000 17 (λj=> -1<=j/\j<ar a/\a/10000^(j+1).toNat=b/10000^(j+1).toNat) (Iu (ar a) (ar b) (aO a) (aO b)) (λ_=>Iv (ar a) (ar b) (aO a) (aO b) (!decide (a=b)) (dU a b)) (λj=>(j+1).toNat) (λj=>j-1) (M (ar a)-1) A
  ⟨Y,Y,by
   have e:(M (ar a)-1+1).toNat=ar a:=by show((ar a:Int)-1+1).toNat=_;omega
   rw[e,m_ (fY a),l,m_ (fY b)]⟩ λj ⟨h1,m,d⟩=>by
  refine(Iw (ar a) (ar b) (aO a) (aO b) _ _ j _).mpr ?_
  refine Zh (λh=>?_) λh=>?_
  ·simp only[bn]at h
   obtain⟨i,rfl⟩:∃i:Nat,j=(i:Int):=⟨j.toNat,O⟩
   have g:((i:Int)+1).toNat=i+1:=O
   rw[g]at d
   have n:(i:Int)<M (ar b):=by rw[<-l];exact m
   refine Ze (nM h m) (Ze (nM h n) (Zh (λf=>Ze (nM h n) ?_) λf=>Ze (aq O O) ?_))
   ·simp only[d_,iK,l_]at f
    have c:bF a i≠bF b i:=λe=>f (by show M (bF a i)=M (bF b i);rw[e])
    have k:(!decide (a=b))=true:=by simp only[d_,iK];intro e;rw[e]at c;exact c A
    rw[k]
    refine⟨rfl,rfl,rfl,YG A ⟨dG _ _,Zf ?_ (YG A ⟨dG _ _,trivial⟩)⟩⟩
    show sP (M (bF a i)) (M (bF b i))=_
    rw[BW,Lw d c]
    unfold dU
    omega
   ·simp only[b_,bn,l_]at f
    have o:bF a i=bF b i:=Int.ofNat.inj f
    refine⟨rfl,rfl,YG A ⟨dG _ _,YG A ⟨dG _ _,Zf A ⟨⟨O,O,?_⟩,O,rfl⟩⟩⟩⟩
    have p:((i:Int)-1+1).toNat=i:=O
    rw[p]
    exact Lx d o
  ·simp only[iK]at h
   have g:(j+1).toNat=0:=O
   rw[g,Nat.pow_zero,p_,p_]at d
   rw[bW d]
   exact⟨rfl,rfl,YG A ⟨dG _ _,YG A ⟨dG _ _,trivial⟩⟩⟩
def GD{a b}(ha:ar a<=1000000):af PP II 112 [.ab (ar a) 1 (aG a),.ab (ar b) 1 (aG b)] (a_ 12) (.ret (.int f_ (dU a b)) (a_ 12)):=by
 refine bY (T:=[(1002,17,Iu (ar a) (ar b) (aO a) (aO b) (M (ar a)-1),Iv (ar a) (ar b) (aO a) (aO b) (!decide (a=b)) (dU a b))]) (λ_=>⟨rfl,rfl⟩) ((P2 (ar a) (ar b) (aO a) (aO b) _ _ _).mpr ?_)
 refine Zh (λh=>?_) λh=>Ze (aq Y Y) ?_
 ·simp only[d_,iK]at h
  have c:ar a≠ar b:=λe=>h (by rw[e])
  rw[BW,PU c]
  unfold dU
  grind
 ·simp only[b_,bn]at h
  have f:ar a=ar b:=Int.ofNat.inj h
  refine⟨Ix f ha,rfl,rfl,YG A ⟨dG _ _,YG A ⟨dG _ _,Zf A (Zh (λ_=>rfl) λd=>?_)⟩⟩⟩
  simp only[b_,bn]at d
  subst d
  unfold dU
  simp
def GF:aC PP II:=aC.pure 112
 (λX args c=>match args with
  |[.ab k 1 f,.ab m 1 g]=>X.ak (cO k f&&cO m g&&o_ k (ar (numOf k f))&&o_ m (ar (numOf m g))&&e_ k 1000000) (c (.int f_ (dU (numOf k f) (numOf m g))))
  |_=>X.fail)
 λX sem hX args c h=>by
  split at h
  ·rename_i k f m g
   obtain⟨d,e⟩:=hX.ak _ _ h
   simp only[bf]at d
   obtain⟨⟨⟨⟨a1,a2⟩,i⟩,a4⟩,j⟩:=d
   have l:=dE i
   have n:=dE a4
   have o:=jX j
   have l1:=gT a1
   have l2:=gT a2
   refine⟨_,e,λ_=>rfl,λ_=>rfl,?_⟩
   refine(GD (a:=numOf k f) (b:=numOf m g) O).dq ⟨⟨l,rfl,l1.2.2⟩,⟨n,rfl,l2.2.2⟩,trivial⟩
  ·exact zR
end
end Go.Sx
