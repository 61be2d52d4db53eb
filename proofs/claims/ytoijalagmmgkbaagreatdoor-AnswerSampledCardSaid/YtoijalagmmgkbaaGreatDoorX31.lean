/- Lemmas, part 31. -/
import Derived.Test.YtoijalagmmgkbaaGreatDoorX30
import Derived.Shelf.RegionOpenPlain
import Derived.Deep.LoopGhost
import Derived.Deep.Draws
import Derived.Deep.QuietTactic
import Derived.Lib.Walk
set_option linter.all false
set_option linter.defProp false
set_option maxRecDepth 1000000
namespace Go.Sx
open Go
open Classical renaming byContradiction->M
open List renaming range->z,length_set->g_
open Option renaming none->a_,some->b_
open AH renaming get_set_same->c_,bH->d_,Le->k_
open Nat renaming beq->e_,add_zero->f_
open AV renaming le->h_,own->m_,int->n_
noncomputable section
def NS{σ:Nat->Nat}(g:σ 14=14)(h:σ 15=15){k:Nat}{F:Nat->ay}{out b:AV}{a:Int}(o:h_ σ out b)(i:Nat):h_ σ (cR (tG k F out a) i) (cR (tG k F b a) i):=by
 unfold tG
 rw[fV,fV]
 simp only[VW]
 by_cases c:i=2
 ·simp only[c,if_true];exact⟨g.symm,rfl,rfl,rfl⟩
 ·by_cases d:i=5
  ·simp only[d,c,if_true,if_false];exact h.symm
  ·by_cases e:i=6
   grind
   ·by_cases f:i=15
    ·simp only[f,c,d,e,if_true,if_false];exact⟨rfl,rfl,λj n=>gU k F j n σ⟩
    ·by_cases l:i=16
     ·simp only[l,c,d,e,f,if_true,if_false];exact⟨rfl,rfl⟩
     ·by_cases m:i=17
      ·simp only[m,c,d,e,f,l,if_true,if_false];exact⟨rfl,rfl⟩
      ·simp only[c,d,e,f,l,m,if_false];exact trivial
def gg{gs j}(a:j<gs.length)(x)(l):aK (gs.set j x) l=if l=j then x else aK gs l:=by
 unfold aK
 grind
def lE{q gs l}(h:l<14):(fB q gs).get l=HR.get l:=by
 rw[gu,if_pos O];unfold A5;rw[if_pos h]
def oQ(q)(gs):(fB q gs).get 14= .cells (aY q) (.ty 32):=by
 rw[gu,if_pos O];rfl
def Xo(q)(gs):(fB q gs).get 15= .cT gs.length (λj=>(aK gs j).key) (λj=> .ptr (17+3*j) 0 0 0) a_:=by
 rw[gu,if_pos O];rfl
def y3(q)(gs):(fB q gs).get 16= .rows gs.length 1 oe (.ty 89):=by
 rw[gu,if_pos O];rfl
def lV{q gs j d}(a:j<gs.length)(b:d<3):(fB q gs).get (17+3*j+d)=lU (aK gs j) q.ng (17+3*j+d) d:=by
 rw[gu,if_pos O];unfold A5
 grind
def Xp{q gs l}(h:17+3*gs.length<=l):(fB q gs).get l= .dead:=by
 rw[gu,if_neg O]
def jw(T)(σ)(i):bt.le σ (ae T i) (ae T i):=⟨⟨rfl,rfl⟩,trivial⟩
def kS(L G)(C)(σ)(i):bt.le σ (az L G C i) (az L G C i):=⟨⟨rfl,rfl⟩,⟨rfl,rfl⟩,rfl,trivial⟩
def Hb{σ:Nat->Nat}{x:bj}{g l d:Nat}(a:d<3)(h:d=0->σ (l+1)=l+1/\σ (l+2)=l+2):(lU x g l d).le σ (lU x g l d):=by
 match d,a with
 |0,_=>exact⟨⟨⟨rfl,rfl,λi _=>jw _ σ i⟩,⟨(h A).1.symm,rfl,rfl⟩,⟨(h A).2.symm,rfl,rfl⟩,trivial⟩,rfl⟩
 |1,_=>exact⟨rfl,rfl,λi _=>kS _ _ _ σ i,rfl⟩
 |2,_=>exact⟨rfl,rfl,λi _=>jw _ σ i,rfl⟩
def Xt(n l):l<14∨l=14∨l=15∨l=16∨(∃i d,i<n/\d<3/\l=17+3*i+d)∨17+3*n<=l:=by
 by_cases h:l<17
 ·omega
 ·by_cases a:17+3*n<=l
  ·omega
  ·exact .inr (.inr (.inr (.inr (.inl ⟨(l-17)/3,(l-17)%3,O,O,O⟩))))
def qJ(N j l:Nat):Nat:=if l<17 then l else if l<20 then 17+3*j+(l-17)else N+(l-20)
def yb(N j l:Nat):Nat:=if l=17+3*j+1 then N else if l=17+3*j+2 then N+1 else if l<N then l else l+2
def rV(q:Query)(gs:List bj)(b:Nat->Nat)(j:Nat):AH:=((fB q gs).set 15 (.cT gs.length (λj=>(aK gs j).key) (λj=> .addr (b j) 0) (b_ (j,.ptr (17+3*j) 0 0 0)))).set 16 (.rows gs.length 1 (eW b) (.ty 89))
def dB(q)(gs)(b)(j l):(rV q gs b j).get l=if l=16 then .rows gs.length 1 (eW b) (.ty 89)else if l=15 then .cT gs.length (λj=>(aK gs j).key) (λj=> .addr (b j) 0) (b_ (j,.ptr (17+3*j) 0 0 0))else(fB q gs).get l:=by
 unfold rV;rw[d_,d_]
def mj(q:Query)(gs:List bj)(b:Nat->Nat)(j:Nat)(x:bj)(l:Nat):eT :=
 if l=17+3*j then .cells [.ab q.ng 1 (ae x.W),.own (17+3*gs.length) x.m 3,.own (17+3*gs.length+1) x.m 1] (.ty 94)else if l=17+3*j+1 then .dead else if l=17+3*j+2 then .dead else if l=17+3*gs.length then .rows x.m 3 (az x.L x.G x.C) (.ty 99)else if l=17+3*gs.length+1 then .rows x.m 1 (ae x.T) (.ty 3)else(rV q gs b j).get l
def w7(q:Query)(gs:List bj)(b:Nat->Nat)(j:Nat)(x:bj):AH:=AH.C5 (17+3*gs.length+2) (mj q gs b j x)
def eZ(q)(gs)(b)(j)(x)(l):(w7 q gs b j x).get l=if l<17+3*gs.length+2 then mj q gs b j x l else .dead:=AH.zr _ _ _
def w8(n:Nat)(K:Nat->List Int)(b:Nat->Nat)(j g:Nat)(W:Nat->Int)(m:Nat)(S T:Nat->List AV):List (Nat×eT):=[(15,.cT n K (λj=> .addr (b j) 0) (b_ (j,.ptr 17 0 0 0))),(16,.rows n 1 (eW b) (.ty 89)),(17,.cells [.ab g 1 (ae W),.own 18 m 3,.own 19 m 1] (.ty 94)),(18,.rows m 3 S (.ty 99)),(19,.rows m 1 T (.ty 3))]
def w9(n:Nat)(K:Nat->List Int)(b:Nat->Nat)(j g:Nat)(W:Nat->Int)(m:Nat)(S T:Nat->List AV):List (Nat×eT):=[(15,.cT n K (λj=> .addr (b j) 0) (b_ (j,.ptr 17 0 0 0))),(16,.rows n 1 (eW b) (.ty 89)),(17,.cells [.ab g 1 (ae W),.own 20 m 3,.own 21 m 1] (.ty 94)),(20,.rows m 3 S (.ty 99)),(21,.rows m 1 T (.ty 3))]
def oR{n K b j g W m S T l}(a:cD (w8 n K b j g W m S T) l≠ .dead):l=15∨l=16∨l=17∨l=18∨l=19:=M λh=>a (by
 simp only[not_or]at h
 obtain⟨c,d,e,f,i⟩:=h
 simp only[w8,cD,c,d,e,f,i,if_false])
def y4{n K b j g W m S T l}(a:l≠15)(c:l≠16)(d:l≠17)(e:l≠20)(f:l≠21):cD (w9 n K b j g W m S T) l= .dead:=by
 simp only[w9,cD,a,c,d,e,f,if_false]
set_option maxHeartbeats 4000000 in
def NT(q:Query)(k:Nat)(F:Nat->ay)(gs:List bj)(i j:Nat)(g:bj)(ks:List (aC PP II))(P:j<gs.length)(a8:g.key=(aK gs j).key)(bc:g.W=(aK gs j).W)(bd:g.m=(aK gs j).m+1)
  (small:∀b,kg ks 40 4001 20 (Fx q k gs.length F (λj=>(aK gs j).key) b j q.ng (aK gs j).W (aK gs j).m (az (aK gs j).L (aK gs j).G (aK gs j).C) (ae (aK gs j).T) (az g.L g.G g.C) (ae g.T) (i:Int) false) (Fx q k gs.length F (λj=>(aK gs j).key) b j q.ng (aK gs j).W (aK gs j).m (az (aK gs j).L (aK gs j).G (aK gs j).C) (ae (aK gs j).T) (az g.L g.G g.C) (ae g.T) (i:Int) true) (λ_=>True)):
  wZ q k F gs (gs.set j g) i:=by
 intro ro n c ρ a w bs I hE hr
 obtain⟨b,hb,U⟩:=C6 (n:=gs.length) (K:=λj=>(aK gs j).key) hr.heap (Xo q gs) (y3 q gs)
 have r0:Rel c ρ (rV q gs b j) w:=U (b_ (j,.ptr (17+3*j) 0 0 0)) (by rintro j' a e;cases e;exact⟨P,rfl⟩)
 have V:cA c ρ {Ha q k F gs i with H:=rV q gs b j} a w:=⟨hr.tmp,r0,hr.df⟩
 have p:∀l,l<17->qJ (17+3*gs.length) j l=l:=λl h=>by unfold qJ;rw[if_pos h]
 have y:qJ (17+3*gs.length) j 17=17+3*j:=rfl
 have B:qJ (17+3*gs.length) j 18=17+3*j+1:=rfl
 have D:qJ (17+3*gs.length) j 19=17+3*j+2:=rfl
 have Q:∀l,20<=l->qJ (17+3*gs.length) j l=17+3*gs.length+(l-20):=λl h=>by unfold qJ;rw[if_neg O,if_neg O]
 have t0:=lV (q:=q) (gs:=gs) P (O:0<3)
 have t1:=lV (q:=q) (gs:=gs) P (O:1<3)
 have t2:=lV (q:=q) (gs:=gs) P (O:2<3)
 have hs:Sub c.G (qJ (17+3*gs.length) j) (hG q 20 (w8 gs.length (λj=>(aK gs j).key) b j q.ng (aK gs j).W (aK gs j).m (az (aK gs j).L (aK gs j).G (aK gs j).C) (ae (aK gs j).T))) (rV q gs b j):=by
  rw[I]
  refine A4 zC (λl hl=>?_) (λl hl=>?_) (λl h=>?_) ?_ (λl h=>p l O) (λl h=>?_) (λl h=>Q l h) (λl hl u=>?_) λl l' h h' e=>?_
  ·exact M λu=>by have:=oR u;omega
  ·exact M λu=>by have:=oR u;omega
  ·rw[dB,if_neg O,if_neg O,lE h]
  ·rw[dB,if_neg O,if_neg O,oQ]
  ·show qJ _ _ l<17+3*gs.length
   unfold qJ
   by_cases h1:l<17
   ·rw[if_pos h1];omega
   ·rw[if_neg h1,if_pos h];omega
  ·rcases oR u with rfl|rfl|rfl|rfl|rfl
   ·rw[p 15 zC,dB,if_neg O,if_pos A];rfl
   ·rw[p 16 zC,dB,if_pos A];rfl
   ·rw[y,dB,if_neg O,if_neg O];exact t0
   ·rw[B,dB,if_neg O,if_neg O];exact t1
   ·rw[D,dB,if_neg O,if_neg O];exact t2
  ·unfold qJ at e
   split at e<;>split at e<;>(try split at e)<;>(try split at e)<;>omega
 have bK:Eb (qJ (17+3*gs.length) j) (hG q 20 (w8 gs.length (λj=>(aK gs j).key) b j q.ng (aK gs j).W (aK gs j).m (az (aK gs j).L (aK gs j).G (aK gs j).C) (ae (aK gs j).T))) (hG q 22 (w9 gs.length (λj=>(aK gs j).key) b j q.ng g.W g.m (az g.L g.G g.C) (ae g.T))) (rV q gs b j) (w7 q gs b j g):=by
  have nd:∀l,l<15->cD (w8 gs.length (λj=>(aK gs j).key) b j q.ng (aK gs j).W (aK gs j).m (az (aK gs j).L (aK gs j).G (aK gs j).C) (ae (aK gs j).T)) l= .dead:=λl hl=>M λu=>by have:=oR u;omega
  have X:∀l,l<15->cD (w9 gs.length (λj=>(aK gs j).key) b j q.ng g.W g.m (az g.L g.G g.C) (ae g.T)) l= .dead:=λl hl=>y4 O O O O O
  refine⟨?_,λl u=>?_,λl hl=>?_,λl hl S=>?_⟩
  ·show 17+3*gs.length+2=17+3*gs.length+(22-20);omega
  ·rw[eX nd]at u
   rw[eX X]
   by_cases h:l<14
   ·rw[if_pos h,p l O,Fy λj P=>p j O,eZ,if_pos O]
    unfold mj
    rw[if_neg O,if_neg O,if_neg O,if_neg O,if_neg O,dB,if_neg O,if_neg O,lE h]
   ·rw[if_neg h]at u⊢
    by_cases Y:l=14
    ·subst Y
     rw[if_pos A,p 14 O,eZ,if_pos O]
     unfold mj
     rw[if_neg O,if_neg O,if_neg O,if_neg O,if_neg O,dB,if_neg O,if_neg O,oQ];rfl
    ·rw[if_neg Y]at u⊢
     rcases oR u with rfl|rfl|rfl|rfl|rfl
     ·rw[p 15 zC,eZ,if_pos O]
      unfold mj
      rw[if_neg O,if_neg O,if_neg O,if_neg O,if_neg O,dB,if_neg O,if_pos A];rfl
     ·rw[p 16 zC,eZ,if_pos O]
      unfold mj
      rw[if_neg O,if_neg O,if_neg O,if_neg O,if_neg O,dB,if_pos A];rfl
     ·rw[y,eZ,if_pos O]
      unfold mj
      rw[if_pos A];rfl
     ·rw[B,eZ,if_pos O]
      unfold mj
      rw[if_neg O,if_pos A];rfl
     ·rw[D,eZ,if_pos O]
      unfold mj
      rw[if_neg O,if_neg O,if_pos A];rfl
  ·have hl:20<=l:=hl
   rw[eX X,if_neg O,if_neg O,Q l hl,eZ]
   by_cases Z:l=20
   ·subst Z
    rw[if_pos O]
    unfold mj
    rw[if_neg O,if_neg O,if_neg O,if_pos O];rfl
   ·by_cases ad:l=21
    ·subst ad
     rw[if_pos O]
     unfold mj
     rw[if_neg O,if_neg O,if_neg O,if_neg O,if_pos O];rfl
    ·rw[if_neg O,y4 O O O Z ad];rfl
  ·have hl:l<17+3*gs.length:=hl
   have E:∀d,d<3->(hG q 20 (w8 gs.length (λj=>(aK gs j).key) b j q.ng (aK gs j).W (aK gs j).m (az (aK gs j).L (aK gs j).G (aK gs j).C) (ae (aK gs j).T))).get (17+d)≠ .dead:=λd u=>by
    rw[eX nd,if_neg O,if_neg O]
    match d,u with
    |0,_=>exactλe=>zG
    |1,_=>exactλe=>zG
    |2,_=>exactλe=>zG
   have n0:l≠17+3*j:=λe=>S 17 (E 0 O) (by rw[y];exact e.symm)
   have n1:l≠17+3*j+1:=λe=>S 18 (E 1 O) (by rw[B];exact e.symm)
   have n2:l≠17+3*j+2:=λe=>S 19 (E 2 O) (by rw[D];exact e.symm)
   rw[eZ,if_pos O]
   unfold mj
   rw[if_neg n0,if_neg n1,if_neg n2,if_neg O,if_neg O]
 have tt:∀f l,cR (tG k F (.own 16 gs.length 1) f) l=(cR (tG k F (.own 16 gs.length 1) f) l).bD (qJ (17+3*gs.length) j):=λf l=>tf (p 14 zC) (p 15 zC) (by show _=m_ (qJ _ _ 16) _ _;rw[p 16 zC]) l
 refine wpIn_mono (td (SB:={Ha q k F gs i with H:=rV q gs b j}) (small b) (λl=>tt _ l) A ⟨rfl,rfl⟩ ro n c ρ a w bs I hs V) λx a1 w1 hp=>?_
 obtain⟨rfl,s1,b1,l1,_,r1⟩:=hp
 obtain⟨bN,_,r2⟩:=r1.view l1 (by show c.G<=20;rw[I];decide) (λl hl=>hl)
 have bR:cA (c.iT ρ (hG q 20 (w8 gs.length (λj=>(aK gs j).key) b j q.ng (aK gs j).W (aK gs j).m (az (aK gs j).L (aK gs j).G (aK gs j).C) (ae (aK gs j).T))) (rV q gs b j) (qJ (17+3*gs.length) j) w) bN {t:=tG k F (.own 16 gs.length 1) ((i:Int)+1),nt:=86,H:=hG q 22 (w9 gs.length (λj=>(aK gs j).key) b j q.ng g.W g.m (az g.L g.G g.C) (ae g.T)),df:=[]} a1 w1:=by
  rw[bc,bd];exact r2
 obtain⟨J,hx,_,r3⟩:=pJ (s:=Fx q k gs.length F (λj=>(aK gs j).key) b j q.ng (aK gs j).W (aK gs j).m (az (aK gs j).L (aK gs j).G (aK gs j).C) (ae (aK gs j).T) (az g.L g.G g.C) (ae g.T) (i:Int) false) (SB':={t:=tG k F (.own 16 gs.length 1) ((i:Int)+1),nt:=86,H:=w7 q gs b j g,df:=[]}) V hs bR bK (λl=>tt _ l) rfl ⟨rfl,rfl⟩
 have b0:∀l,l<gs.length->∃N,J (17+3*l)=b_ (b l,N):=λl hl=>by
  obtain⟨N,e⟩:=hb l hl
  exact⟨N,hx _ _ e⟩
 have back:∀l,l<gs.length->∀v,VR J (.addr (b l) 0) v->VR J (.ptr (17+3*l) 0 0 0) v:=λl hl v hv=>by
  obtain⟨N,e⟩:=b0 l hl
  refine oO.2 ⟨b l,N,e,?_⟩
  simpa only[VR]using hv
 have ag:(w7 q gs b j g).get 15= .cT gs.length (λj=>(aK gs j).key) (λj=> .addr (b j) 0) (b_ (j,.ptr (17+3*j) 0 0 0)):=by
  rw[eZ,if_pos O]
  unfold mj
  rw[if_neg O,if_neg O,if_neg O,if_neg O,if_neg O,dB,if_neg O,if_pos A]
 have ai:(w7 q gs b j g).get 16= .rows gs.length 1 (eW b) (.ty 89):=by
  rw[eZ,if_pos O]
  unfold mj
  rw[if_neg O,if_neg O,if_neg O,if_neg O,if_neg O,dB,if_pos A]
 have r4:=G8 (L:=16) r3.heap zC ag ai (λ_=>rfl) (λl hl=> .inr λv hv=>back l hl v hv) λl hl v hv=>back l hl v (aU.aL.1 hv).1
 have R:∀l,(((w7 q gs b j g).set 15 (.cT gs.length (λj=>(aK gs j).key) (λj=> .ptr (17+3*j) 0 0 0) a_)).set 16 (.rows gs.length 1 oe (.ty 89))).get l=if l=16 then .rows gs.length 1 oe (.ty 89)else if l=15 then .cT gs.length (λj=>(aK gs j).key) (λj=> .ptr (17+3*j) 0 0 0) a_ else if l<17+3*gs.length+2 then mj q gs b j g l else .dead:=λl=>by
  rw[d_,d_,eZ]
 have o:∀l,l<17+3*gs.length->l≠17+3*j+1->l≠17+3*j+2->yb (17+3*gs.length) j l=l:=λl h h1 h2=>by unfold yb;rw[if_neg h1,if_neg h2,if_pos h]
 have ak:yb (17+3*gs.length) j (17+3*j+1)=17+3*gs.length:=by unfold yb;rw[if_pos A]
 have ap:yb (17+3*gs.length) j (17+3*j+2)=17+3*gs.length+1:=by unfold yb;rw[if_neg O,if_pos A]
 have r:(gs.set j g).length=gs.length:=g_
 have a6:k_ 16 (yb (17+3*gs.length) j) (((w7 q gs b j g).set 15 (.cT gs.length (λj=>(aK gs j).key) (λj=> .ptr (17+3*j) 0 0 0) a_)).set 16 (.rows gs.length 1 oe (.ty 89))) (fB q (gs.set j g)):=by
  refine⟨?_,λl hl=>o l O O O,λl hl=>?_,λl=>?_,λl l' _ _ e _=>?_,λl hl=>Xp hl⟩
  ·show 16<=17+3*(gs.set j g).length;omega
  ·have hl:17+3*(gs.set j g).length<=l:=hl
   rw[r]at hl
   show 17+3*gs.length+2<=yb _ _ l
   unfold yb
   rw[if_neg O,if_neg O,if_neg O];omega
  ·rcases Xt gs.length l with h|rfl|rfl|rfl|⟨i',d,hi,u,rfl⟩|h
   ·refine .inr (.inl ?_)
    rw[lE h,o l O O O,R,if_neg O,if_neg O,if_pos O]
    unfold mj
    rw[if_neg O,if_neg O,if_neg O,if_neg O,if_neg O,dB,if_neg O,if_neg O,lE h]
    exact G9 (λj P=>o j O O O) l
   ·refine .inr (.inl ?_)
    rw[oQ,o 14 O O O,R,if_neg O,if_neg O,if_pos O]
    unfold mj
    rw[if_neg O,if_neg O,if_neg O,if_neg O,if_neg O,dB,if_neg O,if_neg O,oQ]
    exact⟨iY _ _,rfl⟩
   ·refine .inr (.inl ?_)
    rw[Xo,o 15 O O O,R,if_neg O,if_pos A]
    refine⟨r.symm,λl hl=>?_,λl hl=>⟨(o _ O O O).symm,rfl,rfl,rfl⟩,λ_ _ e=>zG⟩
    show(aK gs l).key=(aK (gs.set j g) l).key
    rw[gg P]
    by_cases h:l=j
    ·rw[if_pos h,a8,h]
    ·rw[if_neg h]
   ·refine .inr (.inl ?_)
    rw[y3,o 16 O O O,R,if_pos A]
    exact⟨r.symm,rfl,λl hl=>⟨⟨(o _ O O O).symm,rfl,rfl,rfl⟩,trivial⟩,rfl⟩
   ·refine .inr (.inl ?_)
    rw[lV (by rw[r];exact hi) u,gg P]
    by_cases a7:i'=j
    ·subst a7
     rw[if_pos A]
     match d,u with
     |0,_=>
      rw[f_,o _ O O O,R,if_neg O,if_neg O,if_pos O]
      unfold mj
      rw[if_pos A]
      exact⟨⟨⟨rfl,rfl,λi _=>jw _ _ i⟩,⟨ak.symm,rfl,rfl⟩,⟨ap.symm,rfl,rfl⟩,trivial⟩,rfl⟩
     |1,_=>
      rw[ak,R,if_neg O,if_neg O,if_pos O]
      unfold mj
      rw[if_neg O,if_neg O,if_neg O,if_pos A]
      exact⟨rfl,rfl,λi _=>kS _ _ _ _ i,rfl⟩
     |2,_=>
      rw[ap,R,if_neg O,if_neg O,if_pos O]
      unfold mj
      rw[if_neg O,if_neg O,if_neg O,if_neg O,if_pos A]
      exact⟨rfl,rfl,λi _=>jw _ _ i,rfl⟩
    ·rw[if_neg a7,o _ O O O,R,if_neg O,if_neg O,if_pos O]
     unfold mj
     rw[if_neg O,if_neg O,if_neg O,if_neg O,if_neg O,dB,if_neg O,if_neg O,lV hi u]
     exact Hb u λe=>⟨o _ O O O,o _ O O O⟩
   ·exact .inl (Xp (by rw[r];exact h))
  ·unfold yb at e
   split at e<;>split at e<;>(try split at e)<;>(try split at e)<;>(try split at e)<;>(try split at e)<;>omega
 have r5:=r4.view a6 (by rw[I];decide) hE
 refine⟨rfl,_,(OK.of hx).trans (a6.ext J),⟨r3.tmp.1,λl=>?_⟩,r5,r3.df⟩
 refine VR.le _ _ _ ?_ (r3.tmp.2 l)
 show h_ _ (cR (tG k F (.own 16 gs.length 1) ((i:Int)+1)) l) (cR (tG k F (.own 16 (gs.set j g).length 1) ((i:Int)+1)) l)
 rw[r]
 exact NS (o 14 O O O) (o 15 O O O) (show h_ _ (.own 16 gs.length 1) (.own 16 gs.length 1)from⟨(o 16 O O O).symm,rfl,rfl⟩) l
def AH.Le.swap{n0 σ H H1 H2}(h:k_ n0 σ H H1)(b)(hn:H2.n=H1.n)(d:∀l,l≠b->H2.get l=H1.get l)(i:H1.get b≠ .dead)(j:(H.get (σ b)).le σ (H2.get b)):k_ n0 σ H H2:=by
 have a:∀l,H2.get l≠ .dead->H1.get l≠ .dead:=Y
 refine⟨by rw[hn];exact h.n,h.id,λl hl=>h.ge l (by rw[<-hn];exact hl),λl=>?_,λl c k f=>h.inj l c (a l k) (a c f),λl hl=>?_⟩
 ·by_cases e:l=b
  grind
  ·rw[d l e];exact h.dF l
 ·have:H1.get l= .dead:=h.low l (by rw[<-hn];exact hl)
  grind
def oS(n:Nat)(b:Nat->Nat)(a:AV)(j:Nat):List AV:=bif e_ j n then [a]else eW b j
def rW(n:Nat)(b:Nat->Nat)(j:Nat):AV:=bif e_ j n then .any else .addr (b j) 0
def xa(n:Nat)(K:Nat->List Int)(b:Nat->Nat):List (Nat×eT):=[(15,.cT n K (λj=> .addr (b j) 0) a_),(16,.rows n 1 (eW b) (.ty 89))]
def nW(n:Nat)(K:Nat->List Int)(b:Nat->Nat)(ks:List Int)(g:Nat)(x:bj)(a:AV):List (Nat×eT):=[(15,.cT (n+1) (cZ n K ks) (rW n b) (b_ (n,.ptr 17 0 0 0))),(17,.cells [.ab g 1 (ae x.W),.own 18 1 3,.own 19 1 1] (.ty 94)),(18,.rows 1 3 (az x.L x.G x.C) (.ty 99)),(19,.rows 1 1 (ae x.T) (.ty 3)),(20,.rows (n+1) 1 (oS n b a) (.ty 89))]
def rX{n K b l}(a:cD (xa n K b) l≠ .dead):l=15∨l=16:=M λh=>a (by
 simp only[not_or]at h
 obtain⟨c,d⟩:=h
 simp only[xa,cD,c,d,if_false])
def tg{n K b ks g x a l}(c:l≠15)(d:l≠17)(e:l≠18)(f:l≠19)(h:l≠20):cD (nW n K b ks g x a) l= .dead:=by
 simp only[nW,cD,c,d,e,f,h,if_false]
def sN(q:Query)(k n:Nat)(F:Nat->ay)(K:Nat->List Int)(b:Nat->Nat)(ks:List Int)(g:Nat)(x:bj)(a:AV)(i:Int):St:={t:=tG k F (.own 20 (n+1) 1) (i+1),nt:=86,H:=hG q 21 (nW n K b ks g x a),df:=[]}
def FC{q:Query}{k n:Nat}{F:Nat->ay}{K:Nat->List Int}{b:Nat->Nat}{ks:List Int}{g:Nat}{x:bj}{i:Int}{d:St}(h:St.Le 17 d (sN q k n F K b ks g x .any i))(c:C4 n d):St.Le 17 d (sN q k n F K b ks g x (.ptr 17 0 0 0) i):=by
 obtain⟨σ,k1,k2,C,G⟩:=h.le
 have nd:∀a l,l<15->cD (nW n K b ks g x a) l= .dead:=λa l hl=>tg O O O O O
 have p:∀a,(hG q 21 (nW n K b ks g x a)).get 20= .rows (n+1) 1 (oS n b a) (.ty 89):=λa=>by
  rfl
 have u:∀a,(hG q 21 (nW n K b ks g x a)).get 15= .cT (n+1) (cZ n K ks) (rW n b) (b_ (n,.ptr 17 0 0 0)):=λa=>by
  rfl
 have D:h_ σ (cR d.t 6) (.own 20 (n+1) 1):=by
  have e:cR (tG k F (.own 20 (n+1) 1) (i+1)) 6= .own 20 (n+1) 1:=by unfold tG;rw[fV];rfl
  rw[<-e];exact Tr.qz C 6
 refine⟨σ,k1.swap 20 A (λl hl=>?_) ?_ ?_,k2,C,G⟩
 ·show(hG q 21 _).get l=(hG q 21 _).get l
  rw[eX (nd _),eX (nd _)]
  by_cases h:l<14
  grind
  ·rw[if_neg h,if_neg h]
   by_cases r:l=14
   grind
   ·rw[if_neg r,if_neg r]
    simp only[nW,cD,hl,if_false]
 ·show(hG q 21 _).get 20≠_
  grind
 ·show(d.H.get (σ 20)).le σ ((hG q 21 _).get 20)
  have j:=k1.dF 20
  have o:=k1.dF 15
  rw[show(sN q k n F K b ks g x .any i).H.get 20=_ from p .any]at j
  rw[show(sN q k n F K b ks g x .any i).H.get 15=_ from u .any,k1.id 15 O]at o
  rw[p]
  unfold C4 at c
  cases I:cR d.t 6 with
  |own L m e=>
   rw[I]at c D
   obtain⟨rfl,_,_⟩:=D
   cases v:d.H.get (σ 20)with
   |rows W X f ac=>
    simp only[v]at c
    rw[v]at j
    cases w:d.H.get 15 with
    |cT Y Z J foc=>
     simp only[w]at c
     rw[w]at o
     cases foc with
     |none=>exact c.elim
     |some N=>
      obtain⟨j0,a0⟩:=N
      cases a0 with
      |ptr g0 k0 P z0=>
       have Q:f n=[.ptr g0 k0 P z0]:=c
       rcases o with s|⟨_,_,_,s⟩|⟨_,s⟩
       ·cases s
       ·obtain⟨a1,f1,R⟩:=s n (.ptr 17 0 0 0) rfl
        cases f1
        rcases j with y|⟨S,T,B,U⟩|⟨_,y⟩
        ·cases y
        ·refine⟨S,T,λE hi=>?_,U⟩
         have B:=B E hi
         unfold oS at B⊢
         cases V:e_ E n with
         |false=>grind
         |true=>
          have:=dE V
          subst this
          rw[Q]
          exact⟨R,trivial⟩
        ·exact absurd y (by show¬ (n+1=0);omega)
       ·exact s.elim
      |_=>exact c.elim
    |_=>simp only[w]at c
   |_=>simp only[v]at c
  |_=>grind
def lK(N l:Nat):Nat:=if l<17 then l else N+(l-17)
def C7(N l:Nat):Nat:=if l=16 then N+3 else if l<N+3 then l else l+1
def uk(q:Query)(gs:List bj)(b:Nat->Nat):AH:=((fB q gs).set 15 (.cT gs.length (λj=>(aK gs j).key) (λj=> .addr (b j) 0) a_)).set 16 (.rows gs.length 1 (eW b) (.ty 89))
def k8(q)(gs)(b)(l):(uk q gs b).get l=if l=16 then .rows gs.length 1 (eW b) (.ty 89)else if l=15 then .cT gs.length (λj=>(aK gs j).key) (λj=> .addr (b j) 0) a_ else(fB q gs).get l:=by
 unfold uk;rw[d_,d_]
def oT(q:Query)(gs:List bj)(b:Nat->Nat)(ks:List Int)(x:bj)(l:Nat):eT :=
 if l=15 then .cT (gs.length+1) (cZ gs.length (λj=>(aK gs j).key) ks) (rW gs.length b) (b_ (gs.length,.ptr (17+3*gs.length) 0 0 0))else if l=16 then .dead else if l=17+3*gs.length then .cells [.ab q.ng 1 (ae x.W),.own (17+3*gs.length+1) 1 3,.own (17+3*gs.length+2) 1 1] (.ty 94)else if l=17+3*gs.length+1 then .rows 1 3 (az x.L x.G x.C) (.ty 99)else if l=17+3*gs.length+2 then .rows 1 1 (ae x.T) (.ty 3)
  else if l=17+3*gs.length+3 then .rows (gs.length+1) 1 (oS gs.length b (.ptr (17+3*gs.length) 0 0 0)) (.ty 89)else(uk q gs b).get l
def xb(q:Query)(gs:List bj)(b:Nat->Nat)(ks:List Int)(x:bj):AH:=AH.C5 (17+3*gs.length+4) (oT q gs b ks x)
def ic(q)(gs)(b)(ks)(x)(l):(xb q gs b ks x).get l=if l<17+3*gs.length+4 then oT q gs b ks x l else .dead:=AH.zr _ _ _
def mW{q gs b ks x l}(h:l<17+3*gs.length)(a:l≠15)(c:l≠16):oT q gs b ks x l=(fB q gs).get l:=by
 unfold oT
 rw[if_neg a,if_neg c,if_neg O,if_neg O,if_neg O,if_neg O,k8,if_neg c,if_neg a]
def gh(gs)(x)(l):aK (gs++[x]) l=if l=gs.length then x else aK gs l:=by
 unfold aK
 grind
def JG(σ)(n)(b)(l):(λi=>bt.bD σ (oS n b (.ptr l 0 0 0) i))=oS n b (.ptr (σ l) 0 0 0):=funext λi=>by
 unfold oS
 cases e_ i n<;>rfl
def JH(σ)(n)(b):(λi=>(rW n b i).bD σ)=rW n b:=funext λi=>by
 unfold rW
 cases e_ i n<;>rfl
def qK{i n:Nat}(h:i≠n):e_ i n=false:=by
 cases a:e_ i n with
 |false=>rfl
 |true=>simp_all
set_option maxHeartbeats 4000000 in
def NU(q:Query)(k:Nat)(F:Nat->ay)(gs:List bj)(i:Nat)(x:bj)(kn:List (aC PP II))(hm:x.m=1)
  (small:∀b,kg kn 40 4001 17 {t:=tG k F (.own 16 gs.length 1) (i:Int),nt:=86,H:=hG q 17 (xa gs.length (λj=>(aK gs j).key) b),df:=[]} (sN q k gs.length F (λj=>(aK gs j).key) b x.key q.ng x .any (i:Int)) (C4 gs.length)):
  wZ q k F gs (gs++[x]) i:=by
 intro ro n c ρ a w ag B hE hr
 obtain⟨b,hb,I⟩:=C6 (n:=gs.length) (K:=λj=>(aK gs j).key) hr.heap (Xo q gs) (y3 q gs)
 have r0:Rel c ρ (uk q gs b) w:=I a_ (by rintro j' a e;cases e)
 have J:cA c ρ {Ha q k F gs i with H:=uk q gs b} a w:=⟨hr.tmp,r0,hr.df⟩
 have f:∀l,l<17->lK (17+3*gs.length) l=l:=λl h=>by unfold lK;rw[if_pos h]
 have r:∀l,17<=l->lK (17+3*gs.length) l=17+3*gs.length+(l-17):=λl h=>by unfold lK;rw[if_neg O]
 have nd:∀l,l<15->cD (xa gs.length (λj=>(aK gs j).key) b) l= .dead:=λl hl=>M λp=>by have:=rX p;omega
 have P:∀l,l<15->cD (nW gs.length (λj=>(aK gs j).key) b x.key q.ng x (.ptr 17 0 0 0)) l= .dead:=λl hl=>tg O O O O O
 have hs:Sub c.G (lK (17+3*gs.length)) (hG q 17 (xa gs.length (λj=>(aK gs j).key) b)) (uk q gs b):=by
  rw[B]
  refine A4 zC nd (λl hl=>?_) (λl h=>?_) ?_ (λl h=>f l O) (λl h=>?_) (λl h=>r l h) (λl hl p=>?_) λl l' h h' e=>?_
  ·exact M λp=>by have:=rX p;omega
  ·rw[k8,if_neg O,if_neg O,lE h]
  ·rw[k8,if_neg O,if_neg O,oQ]
  ·rw[f l h];show l<17+3*gs.length;omega
  ·rcases rX p with rfl|rfl
   ·rw[f 15 zC,k8,if_neg O,if_pos A];rfl
   ·rw[f 16 zC,k8,if_pos A];rfl
  ·rw[f l h,f l' h']at e;exact e
 have ai:Eb (lK (17+3*gs.length)) (hG q 17 (xa gs.length (λj=>(aK gs j).key) b)) (hG q 21 (nW gs.length (λj=>(aK gs j).key) b x.key q.ng x (.ptr 17 0 0 0))) (uk q gs b) (xb q gs b x.key x):=by
  refine⟨?_,λl p=>?_,λl hl=>?_,λl hl Q=>?_⟩
  ·show 17+3*gs.length+4=17+3*gs.length+(21-17);omega
  ·rw[eX nd]at p
   rw[eX P]
   by_cases h:l<14
   ·rw[if_pos h,f l O,Fy λj hj=>f j O,ic,if_pos O,mW O O O,lE h]
   ·rw[if_neg h]at p⊢
    by_cases R:l=14
    ·subst R
     rw[if_pos A,f 14 O,ic,if_pos O,mW O O O,oQ];rfl
    ·rw[if_neg R]at p⊢
     rcases rX p with rfl|rfl
     ·rw[f 15 zC,ic,if_pos O]
      show oT _ _ _ _ _ 15=eT.cT _ _ (λi=>(rW gs.length b i).bD _) (b_ (gs.length,.ptr (lK (17+3*gs.length) 17) 0 0 0))
      rw[JH]
      unfold oT
      rw[if_pos A];rfl
     ·rw[f 16 zC,ic,if_pos O]
      unfold oT
      rw[if_neg O,if_pos A];rfl
  ·have hl:17<=l:=hl
   rw[eX P,if_neg O,if_neg O,r l hl,ic]
   by_cases S:l=17
   ·subst S
    rw[if_pos O]
    unfold oT
    rw[if_neg O,if_neg O,if_pos O];rfl
   ·by_cases T:l=18
    ·subst T
     rw[if_pos O]
     unfold oT
     rw[if_neg O,if_neg O,if_neg O,if_pos O];rfl
    ·by_cases U:l=19
     ·subst U
      rw[if_pos O]
      unfold oT
      rw[if_neg O,if_neg O,if_neg O,if_neg O,if_pos O];rfl
     ·by_cases V:l=20
      ·subst V
       rw[if_pos O]
       show _=eT.rows _ _ (λi=>bt.bD _ (oS gs.length b (.ptr 17 0 0 0) i)) _
       rw[JG]
       unfold oT
       rw[if_neg O,if_neg O,if_neg O,if_neg O,if_neg O,if_pos O];rfl
      ·rw[if_neg O,tg O S T U V];rfl
  ·have hl:l<17+3*gs.length:=hl
   have W:l≠15:=λe=>Q 15 (by rw[eX nd,if_neg O,if_neg O];exactλe=>zG) (by rw[f 15 O];exact e.symm)
   have X:l≠16:=λe=>Q 16 (by rw[eX nd,if_neg O,if_neg O];exactλe=>zG) (by rw[f 16 O];exact e.symm)
   rw[ic,if_pos O,mW hl W X,k8,if_neg X,if_neg W]
 refine wpIn_mono (td (SB:={Ha q k F gs i with H:=uk q gs b}) (small b) (λl=>tf (f 14 zC) (f 15 zC) (by show _=m_ (lK _ 16) _ _;rw[f 16 zC]) l) A ⟨rfl,rfl⟩ ro n c ρ a w ag B hs J) λy a1 w1 hp=>?_
 obtain⟨rfl,s1,ap,l1,lp,r1⟩:=hp
 obtain⟨a6,_,r2⟩:=r1.view (FC l1 lp) (by show c.G<=17;rw[B];decide) (λl hl=>hl)
 obtain⟨E,hx,_,r3⟩:=pJ (s:={t:=tG k F (.own 16 gs.length 1) (i:Int),nt:=86,H:=hG q 17 (xa gs.length (λj=>(aK gs j).key) b),df:=[]}) (SB':={t:=tG k F (.own (17+3*gs.length+3) (gs.length+1) 1) ((i:Int)+1),nt:=86,H:=xb q gs b x.key x,df:=[]}) J hs r2 ai (λl=>tf (f 14 zC) (f 15 zC) (by show _=m_ (lK _ 20) _ _;rw[r 20 zC]) l) A ⟨rfl,rfl⟩
 have back:∀l,l<gs.length->∀v,VR E (.addr (b l) 0) v->VR E (.ptr (17+3*l) 0 0 0) v:=λl hl v u=>by
  obtain⟨N,e⟩:=hb l hl
  refine oO.2 ⟨b l,N,hx _ _ e,?_⟩
  simpa only[VR]using u
 have Y:(xb q gs b x.key x).get 15= .cT (gs.length+1) (cZ gs.length (λj=>(aK gs j).key) x.key) (rW gs.length b) (b_ (gs.length,.ptr (17+3*gs.length) 0 0 0)):=by
  rw[ic,if_pos O]
  unfold oT
  rw[if_pos A]
 have ak:(xb q gs b x.key x).get (17+3*gs.length+3)= .rows (gs.length+1) 1 (oS gs.length b (.ptr (17+3*gs.length) 0 0 0)) (.ty 89):=by
  rw[ic,if_pos O]
  unfold oT
  rw[if_neg O,if_neg O,if_neg O,if_neg O,if_neg O,if_pos A]
 have r4:=G8 (L:=17+3*gs.length+3) r3.heap O Y ak (λl=>by unfold oS;cases e_ l gs.length<;>rfl) (λl hl=>by
   by_cases e:l=gs.length
   ·exact .inl (by rw[e])
   ·refine .inr λv u=>back l O v ?_
    unfold rW at u
    rw[qK e]at u;exact u) λl hl v u=>by
   unfold oS at u
   by_cases e:l=gs.length
   ·subst e
    rw[ni]at u;exact(aU.aL.1 u).1
   ·rw[qK e]at u
    exact back l O v (aU.aL.1 u).1
 have C:∀l,(((xb q gs b x.key x).set 15 (.cT (gs.length+1) (cZ gs.length (λj=>(aK gs j).key) x.key) (λj=> .ptr (17+3*j) 0 0 0) a_)).set (17+3*gs.length+3) (.rows (gs.length+1) 1 oe (.ty 89))).get l=if l=17+3*gs.length+3 then .rows (gs.length+1) 1 oe (.ty 89)else if l=15 then .cT (gs.length+1) (cZ gs.length (λj=>(aK gs j).key) x.key) (λj=> .ptr (17+3*j) 0 0 0) a_ else if l<17+3*gs.length+4 then oT q gs b x.key x l else .dead:=λl=>by
  rw[d_,d_,ic]
 have g:∀l,l<17+3*gs.length+3->l≠16->C7 (17+3*gs.length) l=l:=λl h h1=>by unfold C7;rw[if_neg h1,if_pos h]
 have D:C7 (17+3*gs.length) 16=17+3*gs.length+3:=by unfold C7;rw[if_pos A]
 have o:(gs++[x]).length=gs.length+1:=zA
 have Z:k_ 16 (C7 (17+3*gs.length)) (((xb q gs b x.key x).set 15 (.cT (gs.length+1) (cZ gs.length (λj=>(aK gs j).key) x.key) (λj=> .ptr (17+3*j) 0 0 0) a_)).set (17+3*gs.length+3) (.rows (gs.length+1) 1 oe (.ty 89))) (fB q (gs++[x])):=by
  refine⟨?_,λl hl=>g l O O,λl hl=>?_,λl=>?_,λl l' _ _ e _=>?_,λl hl=>Xp hl⟩
  ·show 16<=17+3*(gs++[x]).length;omega
  ·have hl:17+3*(gs++[x]).length<=l:=hl
   rw[o]at hl
   show 17+3*gs.length+4<=C7 _ l
   unfold C7
   rw[if_neg O,if_neg O];omega
  ·rcases Xt (gs.length+1) l with h|rfl|rfl|rfl|⟨i',d,hi,p,rfl⟩|h
   ·refine .inr (.inl ?_)
    rw[lE h,g l O O,C,if_neg O,if_neg O,if_pos O,mW O O O,lE h]
    exact G9 (λj hj=>g j O O) l
   ·refine .inr (.inl ?_)
    rw[oQ,g 14 O O,C,if_neg O,if_neg O,if_pos O,mW O O O,oQ]
    exact⟨iY _ _,rfl⟩
   ·refine .inr (.inl ?_)
    rw[Xo,g 15 O O,C,if_neg O,if_pos A]
    refine⟨o.symm,λl hl=>?_,λl hl=>⟨(g _ O O).symm,rfl,rfl,rfl⟩,λ_ _ e=>zG⟩
    show cZ _ _ _ l=(aK (gs++[x]) l).key
    rw[gh]
    unfold cZ
    by_cases h:l=gs.length
    ·rw[if_pos h,h,ni];rfl
    ·rw[if_neg h,qK h];rfl
   ·refine .inr (.inl ?_)
    rw[y3,D,C,if_pos A]
    exact⟨o.symm,rfl,λl hl=>⟨⟨(g _ O O).symm,rfl,rfl,rfl⟩,trivial⟩,rfl⟩
   ·refine .inr (.inl ?_)
    rw[lV (by rw[o];exact hi) p,gh]
    by_cases ad:i'=gs.length
    ·subst ad
     rw[if_pos A]
     match d,p with
     |0,_=>
      rw[f_,g _ O O,C,if_neg O,if_neg O,if_pos O]
      unfold oT
      rw[if_neg O,if_neg O,if_pos (f_ _)]
      exact⟨⟨⟨rfl,rfl,λi _=>jw _ _ i⟩,⟨(g _ O O).symm,hm.symm,rfl⟩,⟨(g _ O O).symm,hm.symm,rfl⟩,trivial⟩,rfl⟩
     |1,_=>
      rw[g _ O O,C,if_neg O,if_neg O,if_pos O]
      unfold oT
      rw[if_neg O,if_neg O,if_neg O,if_pos A]
      exact⟨hm.symm,rfl,λi _=>kS _ _ _ _ i,rfl⟩
     |2,_=>
      rw[g _ O O,C,if_neg O,if_neg O,if_pos O]
      unfold oT
      rw[if_neg O,if_neg O,if_neg O,if_neg O,if_pos A]
      exact⟨hm.symm,rfl,λi _=>jw _ _ i,rfl⟩
    ·rw[if_neg ad,g _ O O,C,if_neg O,if_neg O,if_pos O,mW O O O,lV O p]
     exact Hb p λe=>⟨g _ O O,g _ O O⟩
   ·exact .inl (Xp (by rw[o];exact h))
  ·unfold C7 at e
   split at e<;>split at e<;>(try split at e)<;>(try split at e)<;>omega
 have r5:=r4.view Z (by rw[B];decide) hE
 refine⟨rfl,_,(OK.of hx).trans (Z.ext E),⟨r3.tmp.1,λl=>?_⟩,r5,r3.df⟩
 refine VR.le _ _ _ ?_ (r3.tmp.2 l)
 show h_ _ (cR (tG k F (.own (17+3*gs.length+3) (gs.length+1) 1) ((i:Int)+1)) l) (cR (tG k F (.own 16 (gs++[x]).length 1) ((i:Int)+1)) l)
 rw[o]
 exact NS (g 14 O O) (g 15 O O) (show h_ _ (.own (17+3*gs.length+3) (gs.length+1) 1) (.own 16 (gs.length+1) 1)from⟨D.symm,rfl,rfl⟩) l
def km(q:Query)(gs:List bj)(i:Nat)(x:ay):List bj :=
 bif gk q x then
  match jD gs.length (λj=>(aK gs j).key) (FA q x)with
  |some j=>gs.set j {key:=(aK gs j).key,W:=(aK gs j).W,m:=(aK gs j).m+1,L:=gV (aK gs j).L (aK gs j).m (kR q x),G:=gV (aK gs j).G (aK gs j).m (lJ q x),C:=uj (aK gs j).C (aK gs j).m (Br q x),T:=gV (aK gs j).T (aK gs j).m (i:Int)}
  |none=>gs++[{key:=FA q x,W:=aj q x,m:=1,L:=λ_=>kR q x,G:=λ_=>lJ q x,C:=λ_=>Br q x,T:=λ_=>(i:Int)}]
 else gs
def aV(q:Query)(F:Nat->ay):Nat->List bj
 |0=>[]
 |i+1=>km q (aV q F i) i (F i)
def lF{n K ks j}(h:jD n K ks=b_ j):j<n/\K j=ks:=by
 unfold jD at h
 grind
def xc{n K ks}(h:jD n K ks=a_):∀j,j<n->K j≠ks:=λj a e=>by
 unfold jD at h
 grind
def FD{n K ks}(h:jD n K ks=a_):jD (n+1) (cZ n K ks) ks=b_ n:=by
 unfold jD
 rw[List.range_succ,List.find?_append]
 have:(z n).find? (λi=>cZ n K ks i==ks)=a_:=by
  rw[List.find?_eq_none]
  intro i hi
  have hi:=List.mem_range.1 hi
  unfold cZ
  rw[qK O]
  simpa using xc h i hi
 rw[this]
 simp[cZ]
structure Hc (gs:List bj) (i:Nat):Prop where
 len:gs.length<=i
 keys:∀a,a<gs.length->(aK gs a).key.length=3
 ms:∀a,a<gs.length->(aK gs a).m<=i
def lG(q)(F):∀i,Hc (aV q F i) i
 |0=>⟨dw _,λj a=>absurd a (by simp[aV]),λj a=>absurd a (by simp[aV])⟩
 |i+1=>by
  obtain⟨c,b,d⟩:=lG q F i
  show Hc (km q (aV q F i) i (F i)) (i+1)
  unfold km
  cases gk q (F i)with
  |false=>exact⟨Y,b,Y⟩
  |true=>
   simp only[cond_true]
   split
   ·rename_i j a
    obtain⟨a,_⟩:=lF a
    refine⟨Y,λl hl=>?_,λl hl=>?_⟩
    ·rw[g_]at hl
     rw[gg a]
     grind
    ·rw[g_]at hl
     rw[gg a]
     grind
   ·refine⟨by simp;omega,λl hl=>?_,λl hl=>?_⟩
    ·rw[gh]
     by_cases h:l=(aV q F i).length
     ·rw[if_pos h];rfl
     grind
    ·rw[gh]
     grind
def C8{n K}(h:∀j,j<n->(K j).length=3):ln n K 3=true:=by
 unfold ln
 simp_all
def Xs{q}(h:ct q=true):q.ng<=3:=by
 have:=(FX h).2.2
 unfold Hl at this
 grind
def JI(q)(k)(F)(i)(hi:i<k)(c:k<=1000000)(hq:ct q=true)(d:bB (F i)=true):wZ q k F (aV q F i) (aV q F (i+1)) i:=by
 show wZ q k F (aV q F i) (km q (aV q F i) i (F i)) i
 obtain⟨p,g,m⟩:=lG q F i
 unfold km
 cases hp:gk q (F i)with
 |false=>exact JC q k F _ i hi c hq d hp
 |true=>
  simp only[cond_true]
  have l:=C8 g
  split
  ·rename_i j a
   obtain⟨e,_⟩:=lF a
   have f:uI (aV q F i).length (λj=>(aK (aV q F i) j).key) (FA q (F i)) j=true:=by unfold uI;rw[a];exact ni j
   have r:=m j e
   have a1:=Bool.and_eq_true_iff.2 ⟨l,f⟩
   refine NT q k F _ i j _ [jW q,qj q q.ng] e A A A λb=>?_
   exact JE q k _ F _ b j _ _ _ _ _ _ i hi c O hq (Xs hq) d hp a1
  ·rename_i a
   have f:Kv (aV q F i).length (λj=>(aK (aV q F i) j).key) (FA q (F i))=true:=by unfold Kv;rw[a]
   have n:uI ((aV q F i).length+1) (cZ (aV q F i).length (λj=>(aK (aV q F i) j).key) (FA q (F i))) (FA q (F i)) (aV q F i).length=true:=by unfold uI;rw[FD a];exact ni _
   have o:ln ((aV q F i).length+1) (cZ (aV q F i).length (λj=>(aK (aV q F i) j).key) (FA q (F i))) 3=true:=C8 λj e=>by
    unfold cZ
    by_cases h:j=(aV q F i).length
    ·rw[h,ni];rfl
    ·rw[qK h];exact g j O
   have a1:=Bool.and_eq_true_iff.2 ⟨l,f⟩
   have a2:=Bool.and_eq_true_iff.2 ⟨o,n⟩
   refine NU q k F _ i _ [jW q,qj q q.ng] rfl λb=>?_
   exact JF q k _ F _ b i hi c O hq (Xs hq) d hp a1 a2
abbrev XZ(ks:List (aC PP II))(f key n0:Nat)(s a:St):Prop :=
 uA ks (mG PP II []) 1000 false (.code (aD II f key)) s {n:=λ_=>False,x:=λi b=>i=0/\mF n0 b a True,g:=λ_ _=>False,r:=λ_=>False,p:=λ_ _=>False}
def QW(q:Query)(k:Nat)(F:Nat->ay)(n:Nat)(i:Int){b}(c:b=[AV.ab q.nw 3 (au q.C),AV.ab q.ng 1 (aR q.G),n_ .i64 q.a,n_ .i64 q.fl,AV.str q.nu,AV.str q.de,n_ .i64 q.top]):(XZ [jW q,qj q 0] 40 4001 17 (ui q k F 0 0 0 (.own 16 n 1) i false) (ui q k F 0 0 0 (.own 16 n 1) i false))=(ah (decide (i<Int.ofNat k)) (aa (decide (0<=i)&&decide (i<Int.ofNat k)) (aa (qT q b&&ct q&&bB (F i.toNat)) (ah (!gk q (F i.toNat)) (aa (aN .i64 (i+1)) False) (aa (qT q b&&ct q&&bB (F i.toNat)&&e_ q.ng 0) False)))) (0=0/\zyN q.nw (zyR q.nw (au q.C) (zyN q.ng (zyR q.ng (aR q.G) (zyI q.a (zyI q.fl (zyB q.nu (zyB q.de (zyI q.top (zyB [48] (zyB [49] (zyR 5 aA (zyN k ((an k (λi=>eD (F i)) λi=>eD (F i))/\zyI i (zyI (Int.ofNat k) (zyN n True))))))))))))))))):=by subst_vars;kernel_rfl
def JJ(q:Query)(k:Nat)(F:Nat->ay)(n i:Nat)(hi:k<=i):XZ [jW q,qj q 0] 40 4001 17 (ui q k F 0 0 0 (.own 16 n 1) (i:Int) false) (ui q k F 0 0 0 (.own 16 n 1) (i:Int) false):=by
 rw[QW _ _ _ _ _ A]
 have fl:=gU k F
 have a:Int.ofNat k=(k:Int):=rfl
 refine Zg (λh=>absurd h O) (λ_=>?_)
 repeat' (with_reducible first|refine Zf A ?_|refine YG A ?_|refine Zi A ?_|refine And.intro ?_ ?_|exact bC _ _|exact bO _ _|exact aZ|exact fl|exact trivial|exact A)
section
def qL(g:Nat)(x:bj):List AV:=[.ab g 1 (ae x.W),.ab x.m 3 (az x.L x.G x.C),.ab x.m 1 (ae x.T)]
theorem JK(W:Nat->Int)(n:Nat):((z n).all λi=>bt.free (ae W i))=true:=List.all_eq_true.2 λ_ _=>rfl
theorem FE(L G:Nat->Int)(C:Nat->Bool)(n:Nat):((z n).all λi=>bt.free (az L G C i))=true:=List.all_eq_true.2 λ_ _=>rfl
section
variable {R:Type} (X:RI R)
theorem QX{d:Nat}{H H1:AH}{l k e j:Nat}{cs:List AV}{ac:Access}(K:AV->AH->R)(b:l6 H l=b_ H1)(c:H1.get l= .cells cs ac):qC X (d+1) (.ptr l k e j) H K=jK X d cs H1 λa H2=>K (.fc a (k*e+j)) H2:=by
 simp only[qC]
 rw[b]
 simp only[c]
theorem A6{d:Nat}{H H1:AH}{l n m e:Nat}{f:Nat->List AV}{ac:Access}(K:AV->AH->R)(a:l6 H l=b_ H1)(b:H1.get l= .rows n e f ac):qC X (d+1) (.own l m e) H K=X.bq (((z n).all λi=>bt.free (f i))&&decide (m<=n)) (K (.ab m e f) H1):=by
 simp only[qC]
 rw[a]
 simp only[b,if_true]
theorem Ux{d:Nat}{H:AH}{n e:Nat}{f:Nat->List AV}(K:AV->AH->R):qC X (d+1) (.ab n e f) H K=K (.ab n e f) H:=by
 simp only[qC]
theorem th{d:Nat}{H:AH}{a:AV}{cs:List AV}(K:List AV->AH->R):jK X (d+1) (a::cs) H K=qC X d a H λx H1=>jK X d cs H1 λb H2=>K (x::b) H2:=by
 simp only[jK]
theorem NW{d:Nat}{H:AH}(K:List AV->AH->R):jK X (d+1) [] H K=K [] H:=by
 simp only[jK]
end
theorem JL{H H1 H2 a:AH}{l l1 l2 g m:Nat}{w f s:Nat->List AV}{a0 a1 a2:Access}{d:Nat}(b:l6 H l=b_ H1)(c:H1.get l= .cells [.ab g 1 w,.own l1 m 3,.own l2 m 1] a0)(e1:l6 H1 l1=b_ H2)(g1:H2.get l1= .rows m 3 f a1)(e:l6 H2 l2=b_ a)(g2:a.get l2= .rows m 1 s a2)
  (j:((z m).all λi=>bt.free (f i))=true) (k:((z m).all λi=>bt.free (s i))=true):j4 (.ptr l 0 0 0) H (.fc [.ab g 1 w,.ab m 3 f,.ab m 1 s] 0) a:=by
 have h:qC RI.jY (d+6) (.ptr l 0 0 0) H (λa' H'=>a'= .fc [.ab g 1 w,.ab m 3 f,.ab m 1 s] 0/\H'=a):=by
  rw[QX RI.jY _ b c,th,Ux,th,A6 RI.jY _ e1 g1]
  refine Ze (by rw[j,bW (dw m)];rfl) ?_
  rw[th,A6 RI.jY _ e g2]
  refine Ze (by rw[k,bW (dw m)];rfl) ?_
  rw[NW]
  exact⟨rfl,rfl⟩
 obtain⟨a',H',⟨rfl,rfl⟩,n⟩:=lm (sem:=id) RI.dJ (d+6) (.ptr l 0 0 0) H _ h
 exact n
theorem NX{H:AH}{l g:Nat}{x:bj}(a:H.get l=lU x g l 0)(b:H.get (l+1)=lU x g l 1)(c:H.get (l+2)=lU x g l 2):
  j4 (.ptr l 0 0 0) H (.fc (qL g x) 0) (((H.set l (.cells [.ab g 1 (ae x.W),.own (l+1) x.m 3,.own (l+2) x.m 1] .ro)).set (l+1) (.rows x.m 3 (az x.L x.G x.C) .ro)).set (l+2) (.rows x.m 1 (ae x.T) .ro)):=by
 refine JL (d:=0) (H1:=H.set l (.cells [.ab g 1 (ae x.W),.own (l+1) x.m 3,.own (l+2) x.m 1] .ro)) (H2:=(H.set l (.cells [.ab g 1 (ae x.W),.own (l+1) x.m 3,.own (l+2) x.m 1] .ro)).set (l+1) (.rows x.m 3 (az x.L x.G x.C) .ro)) ?_ (c_ _ _ _) ?_ (c_ _ _ _) ?_ (c_ _ _ _) (FE _ _ _ _) (JK _ _)
 ·unfold l6;rw[a];rfl
 ·unfold l6;rw[d_,if_neg O,b];rfl
 ·unfold l6;rw[d_,if_neg O,d_,if_neg O,c];rfl
end
def fj(g:Nat)(gs:List bj)(i:Nat):List AV:=[.fc (qL g (aK gs i)) 0]
def C9(g:Nat)(gs:List bj):List (Nat×eT):=[(16,.rows gs.length 1 (fj g gs) (.ty 89))]
def JM(q:Query)(gs:List bj):St:={t:=Tr.ofList [(6,.own 16 gs.length 1)],nt:=86,H:=hG q 17 (C9 q.ng gs),df:=[]}
def ul{q:Query}{gs:List bj}{c:fw}{ρ:Env}{w:World}(h:Rel c ρ (fB q gs) w):∀j,j<=gs.length->
  ∃ρ' H',Ext ρ ρ'/\Rel c ρ' H' w/\H'.n=17+3*gs.length/\(∀l,l<17->H'.get l=(fB q gs).get l)/\(∀i d,j<=i->i<gs.length->d<3->H'.get (17+3*i+d)=lU (aK gs i) q.ng (17+3*i+d) d)/\
   ∀i,i<j->∀v,VR ρ (.ptr (17+3*i) 0 0 0) v->VR ρ'.bare (.fc (qL q.ng (aK gs i)) 0) v
 |0,_=>⟨ρ,_,Ext.refl ρ,h,rfl,λ_ _=>rfl,λi d _ hi m=>lV hi m,O⟩
 |j+1,D=>by
  obtain⟨o,H1,x1,r1,n1,lo,a,old⟩:=ul h j O
  have f:=h.dF 15
  rw[Xo]at f
  obtain⟨_,_,u,_,_,t,_⟩:=f
  have s:VR ρ (.ptr (17+3*j) 0 0 0) (u j):=t j O
  have y:=a j 0 (dw _) O O
  have t1:=a j 1 (dw _) O O
  have t2:=a j 2 (dw _) O O
  obtain⟨fn,B⟩:=NX (H:=H1) (l:=17+3*j) (g:=q.ng) (x:=aK gs j) y t1 t2
  obtain⟨p,x2,C,E⟩:=B c o w (u j) r1 (VR.ext x1 _ _ s)
  refine⟨p,_,x1.trans x2,C,fn.trans n1,λl hl=>?_,λi d hi r m=>?_,λi hi v k=>?_⟩
  ·rw[d_,if_neg O,d_,if_neg O,d_,if_neg O,lo l hl]
  ·rw[d_,if_neg O,d_,if_neg O,d_,if_neg O,a i d O r m]
  ·by_cases e:i=j
   ·subst e
    obtain⟨b,N,a1,rfl⟩:=oO.1 k
    obtain⟨F,G,a2,I⟩:=oO.1 s
    grind
   ·exact VR.ext x2.bare _ _ Y
def FF{q:Query}{gs:List bj}{c:fw}{ρ:Env}{w:World}(D:Rel c ρ (fB q gs) w)(y:c.G=II.G)(T:∀l,c.E l->l<16):
  ∃ρ',OK 17 ρ ρ'/\Rel c ρ' (hG q 17 (C9 q.ng gs)) w/\∀a v,h_ (lK (17+3*gs.length)) a a->VR ρ a v->VR ρ' a v:=by
 obtain⟨m,H1,x1,r1,n1,lo,_,old⟩:=ul D gs.length (dw _)
 have nd:∀l,l<15->cD (C9 q.ng gs) l= .dead:=λl hl=>by
  simp only[C9,cD];grind
 have conv:∀i,i<gs.length->∀v,VR m (.ptr (17+3*i) 0 0 0) v->VR m (.fc (qL q.ng (aK gs i)) 0) v:=λi hi v k=>by
  have p:=D.dF 15
  rw[Xo]at p
  obtain⟨_,_,u,_,_,H,_⟩:=p
  have F:=H i hi
  have:=VR.ext (Ext.qU m) _ _ (old i hi _ F)
  obtain⟨b,N,a1,rfl⟩:=oO.1 k
  obtain⟨U,V,a2,W⟩:=oO.1 (VR.ext x1 _ _ F)
  grind
 have g:∀l,(H1.set 16 (.rows gs.length 1 (fj q.ng gs) (.ty 89))).get l=if l=16 then .rows gs.length 1 (fj q.ng gs) (.ty 89)else H1.get l:=λl=>d_ _ _ _ _
 have o:H1.get 16= .rows gs.length 1 oe (.ty 89):=by rw[lo 16 O,y3]
 have I:Rel c m (H1.set 16 (.rows gs.length 1 (fj q.ng gs) (.ty 89))) w:=by
  refine r1.alike A (λl hl=>?_) (λl=>?_) λl=>?_
  ·rw[g]
   by_cases x:l=16
   ·subst x
    rw[if_pos A]
    rw[o]at hl
    refine⟨λ_ _=>rfl,?_⟩
    rcases hl.2 with⟨h1,B⟩|⟨bb,N,vs,rest,el,fr,h1,B,J,K,L⟩
    ·left
     refine⟨?_,B⟩
     cases hn:gs.length with
     |zero=>rfl
     |succ n=>
      rw[hn]at h1
      have:=congrArg List.length h1
      rw[nX (n:=n+1) (e:=1) (f:=oe) λ_ _=>rfl]at this
      simp at this
    ·right
     refine⟨bb,N,vs,rest,el,fr,h1,B,J,?_,L⟩
     obtain⟨P,Q⟩:=mT (f:=oe) (λ_=>rfl) K
     refine oI P λi hi=>?_
     obtain⟨v,R,S⟩:=Q i hi
     exact⟨v,R,aU.aL.2 ⟨conv i hi v (aU.aL.1 S).1,zH⟩⟩
   grind
  ·rw[g]
   by_cases x:l=16
   ·subst x;rw[if_pos A,o];rfl
   ·rw[if_neg x]
  ·grind
 have d:∀l,l<17->lK (17+3*gs.length) l=l:=λl h=>by unfold lK;rw[if_pos h]
 have r:k_ 17 (lK (17+3*gs.length)) (H1.set 16 (.rows gs.length 1 (fj q.ng gs) (.ty 89))) (hG q 17 (C9 q.ng gs)):=by
  have s:∀l,(hG q 17 (C9 q.ng gs)).get l≠ .dead->l<17:=λl C=>Nat.lt_of_not_le λhl=>C (by
   rw[eX nd,if_neg O,if_neg O]
   simp only[C9,cD];grind)
  refine⟨dw _,d,λl hl=>?_,λl=>?_,λl X k Z e _=>?_,λl hl=>?_⟩
  ·show H1.n<=_
   have hl:17<=l:=hl
   unfold lK;grind
  ·rw[eX nd]
   by_cases h:l<14
   ·refine .inr (.inl ?_)
    rw[if_pos h,d l O,g,if_neg O,lo l O,lE h]
    exact G9 (λj hj=>d j O) l
   ·rw[if_neg h]
    by_cases t:l=14
    ·refine .inr (.inl ?_)
     subst t
     rw[if_pos A,d 14 O,g,if_neg O,lo 14 O,oQ]
     exact⟨iY _ _,rfl⟩
    ·rw[if_neg t]
     by_cases o:l=16
     ·refine .inr (.inl ?_)
      subst o
      rw[d 16 O,g,if_pos A]
      exact⟨rfl,rfl,λi hi=>⟨⟨⟨⟨rfl,rfl,λj _=>jw _ _ j⟩,⟨rfl,rfl,λj _=>kS _ _ _ _ j⟩,⟨rfl,rfl,λj _=>jw _ _ j⟩,trivial⟩,rfl⟩,trivial⟩,rfl⟩
     ·refine .inl ?_
      simp only[C9,cD];rw[if_neg o]
  ·grind
  ·exact M λC=>by
    have:=s l C
    have hl:17<=l:=hl
    omega
 exact⟨_,(OK.of x1).trans (r.ext m),I.view r (by rw[y];decide) (λl hl=>Y),λa v h k=>VR.le _ _ _ h (VR.ext x1 _ _ k)⟩
def NY{ks f key n0 s y}(h:XZ ks f key n0 s y){SB σ}(ht:∀i,cR SB.t i=(cR s.t i).bD σ)(o:SB.nt=s.nt)(k:s.df=[]/\SB.df=[])
  (ro) (n) (c) (ρ) (a) (w) (q:ro=a_) (hG:c.G=II.G) (D:Sub c.G σ s.H SB.H) (m:cA c ρ SB a w):
  (aD II f key).wpIn (WF ro) n PP (λx a1 B=>x= .exit 0/\∃d l,St.Le n0 d y/\cA (c.iT ρ s.H SB.H σ w) l d a1 B) a w:=by
 obtain⟨e,j,E⟩:=nH Hs ks (bm PP II []) 1000 false _ _ _ h
 have u:cA (c.iT ρ s.H SB.H σ w) (ρ.fC σ) s a w:=by
  refine⟨⟨m.tmp.1.trans o,λi=>?_⟩,m.heap.iT D,?_⟩
  ·have:=m.tmp.2 i
   rw[ht]at this
   exact VR.gR _ _ this
  ·have:=m.df
   rw[k.2]at this
   rw[k.1]
   exact this
 have F:(aD II f key).wpIn (WF ro) n PP (e.post (c.iT ρ s.H SB.H σ w) (ρ.fC σ)) a w:=E ro n (c.iT ρ s.H SB.H σ w) (ρ.fC σ) a w (λ_=>q) hG u
 refine wpIn_mono F λx a1 B C=>?_
 cases e with
 |x b d=>
  cases x with
  |exit id=>
   obtain⟨rfl,l,_,I⟩:=C
   obtain⟨rfl,j⟩:=j
   obtain⟨k1,_⟩:=mF.ok (K:=True) j
   grind
  |_=>exact C.elim
 |n d=>exact(j:False).elim
 |g b d=>exact(j:False).elim
 |r d=>exact(j:False).elim
 |p v d=>exact(j:False).elim
def NZ{S:Nat->St}{E:aQ}{n0 k:Nat}{c:Code}
  (g:∀i,i<k->∀n b ρ a w,b.G=II.G->(∀l,b.E l->l<n0)->cA b ρ (S i) a w->c.wpIn (WF a_) n PP (λx a1 f=>x= .normal/\∃ρ',OK n0 ρ ρ'/\cA b ρ' (S (i+1)) a1 f) a w)
  (last:∀n b ρ a w,b.G=II.G->(∀l,b.E l->l<n0)->cA b ρ (S k) a w->c.wpIn (WF a_) n PP (λx a1 f=>x≠ .normal/\E.kx n0 b ρ x a1 f) a w):
  ∀d i,i+d=k->∀t,t= .inLoop c∨t= .code (.loop c)->∀n b ρ a w,b.G=II.G->(∀l,b.E l->l<n0)->cA b ρ (S i) a w->fG (WF a_) n PP t (E.kx n0 b ρ) a w:=by
 intro d
 induction d with
 |zero=>
  intro i hi t ht n b ρ a w hG h j
  have:i=k:=O
  subst this
  refine mB t ht (wpIn_mono (last n b ρ a w hG h j) λx a1 f e=>?_)
  obtain⟨hx,e⟩:=e
  cases x with
  |normal=>exact absurd A hx
  |_=>exact e
 |succ d m=>
  intro i hi t ht n b ρ a w hG h j
  refine mB t ht (wpIn_mono (g i O n b ρ a w hG h j) λx a1 f e=>?_)
  obtain⟨rfl,ρ',o,p⟩:=e
  exact(m (i+1) O (.inLoop c) (.inl A) n b ρ' a1 f hG h p).mono λx a w e=>aQ.ja o e
def N1(q)(k)(F)(gs)(n)(c)(ρ)(a)(w)(d:c.G=II.G)(y:∀l,c.E l->l<16)(p:cA c ρ (Ha q k F gs k) a w):
  (aD II 40 4001).wpIn (WF a_) n PP (λx a1 r=>x≠ .normal/\(aQ.x 0 (JM q gs)).kx 16 c ρ x a1 r) a w:=by
 have b:∀l,l<17->lK (17+3*gs.length) l=l:=λl h=>by unfold lK;rw[if_pos h]
 have f:∀l,17<=l->lK (17+3*gs.length) l=17+3*gs.length+(l-17):=λl h=>by unfold lK;grind
 have nil:∀x,cD [] x= .dead:=λ_=>rfl
 have i:Sub c.G (lK (17+3*gs.length)) (hG q 17 []) (fB q gs):=by
  rw[d]
  refine A4 (H:=fB q gs) zC (λ_ _=>rfl) (λ_ _=>rfl) (λl h=>lE h) (oQ q gs) (λl h=>b l O) (λl h=>?_) (λl h=>f l h) Y Y
  rw[b l h];show l<17+3*gs.length;omega
 have o:Eb (lK (17+3*gs.length)) (hG q 17 []) (hG q 17 []) (fB q gs) (fB q gs):=
  {n:=by rfl
   old:=λl B=>i.same l B
   new:=λl hl=>by
    have hl:17<=l:=hl
    rw[f l hl,gu,if_neg O,i.low l hl];rfl
   rest:=λ_ _ _=>rfl}
 have s:∀j,cR (tG k F (.own 16 gs.length 1) (k:Int)) j=(cR (tG k F (.own 16 gs.length 1) (k:Int)) j).bD (lK (17+3*gs.length)):=λj=>tf (b 14 zC) (b 15 zC) (by rfl) j
 refine wpIn_mono (NY (SB:=Ha q k F gs k) (JJ q k F gs.length k (dw _)) s A ⟨rfl,rfl⟩ a_ n c ρ a w A d i p) λx a1 r C=>?_
 obtain⟨rfl,P,D,l1,r1⟩:=C
 obtain⟨I,_,J⟩:=r1.view l1 (by show c.G<=17;rw[d];decide) (λl hl=>hl)
 obtain⟨K,hx,_,m⟩:=pJ (SB':=Ha q k F gs k) p i J o s rfl ⟨rfl,rfl⟩
 obtain⟨g,u,L,N⟩:=FF m.heap d y
 refine⟨(λe=>zG),rfl,g,(OK.of hx).trans ⟨λl hl=>u.1 l O,u.fz⟩,⟨m.tmp.1,λj=>?_⟩,L,m.df⟩
 have v:=m.tmp.2 j
 show VR g (cR (Tr.ofList [(6,.own 16 gs.length 1)]) j) _
 rw[fV]
 simp only[VW]
 by_cases h:j=6
 ·rw[if_pos h]
  subst h
  have e:cR (Ha q k F gs k).t 6= .own 16 gs.length 1:=by show cR (tG k F _ _) 6=_;unfold tG;rw[fV];rfl
  rw[e]at v
  exact N _ _ (show h_ _ (.own 16 gs.length 1) (.own 16 gs.length 1)from⟨(b 16 O).symm,rfl,rfl⟩) v
 ·rw[if_neg h]
  simp only[VR]
def Hd:List (Nat×eT):=[(15,.cT 0 (λ_=>[]) (λj=> .ptr (17+3*j) 0 0 0) a_),(16,.rows 0 1 oe (.ty 89))]
def N3(q:Query)(k:Nat)(F:Nat->ay):St:={t:=tG k F (.own 16 0 1) 0,nt:=86,H:=hG q 17 Hd,df:=[]}
def N4(q:Query)(k:Nat)(F:Nat -> ay){c:fw}{ρ :Env}{a:Act}{w:World}(f:cA c ρ (N3 q k F) a w)(g:c.G = II.G)(n:∀l,c.E l -> l < 16):∃ρ',OK 16 ρ ρ' /\ cA c ρ' (Ha q k F [] 0) a w := by
  have nd:∀l,l < 15 -> cD Hd l = .dead :=λl hl => by
    simp only[Hd,cD]; grind
  have m:∀l,17<= l -> (fB q []).get l = .dead :=λl hl => Xp (by simpa using hl)
  have b:k_ 16 (λl => l) (hG q 17 Hd) (fB q []) := by
   refine⟨(by decide :16<= 17),λ_ _ => rfl,λl hl => hl,λl => ?_,λ_ _ _ _ e _ => e,λl hl => m l hl⟩
   rcases Xt 0 l with h|rfl|rfl|rfl|⟨i,d,hi,_⟩|h
   · refine .inr (.inl ?_)
     rw[eX nd,if_pos h,lE h]
     exact G9 (λ_ _ => rfl) l
   · refine .inr (.inl ?_)
     rw[eX nd,if_neg O,if_pos A,oQ]
     exact⟨iY _ _,rfl⟩
   · refine .inr (.inl ?_)
     rw[eX nd,if_neg O,if_neg O,Xo]
     exact⟨rfl,λ_ h => absurd h (lZ _),λ_ h => absurd h (lZ _),λ_ _ e => zG⟩
   · refine .inr (.inl ?_)
     rw[eX nd,if_neg O,if_neg O,y3]
     exact⟨rfl,rfl,O,rfl⟩
   · omega
   · grind
  refine⟨_,b.ext ρ,⟨f.tmp.1,λj => VR.le _ _ _ ?_ (f.tmp.2 j)⟩,f.heap.view b (by rw[g]; decide) n,f.df⟩
  exact NS A A (show h_ _ (.own 16 0 1) (.own 16 0 1)from⟨rfl,rfl,rfl⟩) j
def Da(q)(k)(F)(o:k<=1000000)(hq:ct q=true)(p:∀i,i<k->bB (F i)=true):eu PP II false (aD II 40 4001) 16 (N3 q k F) (.one (.x 0 (JM q (aV q F k)))) where
 h s0 f r:=by
  intro ro n e ρ a w g hG b
  cases g rfl
  have d:∀l,e.E l->l<16:=λl hl=>by have:=(b.heap.env l hl).1;omega
  obtain⟨s,x1,r1⟩:=b.view r (by rw[hG];decide) d
  obtain⟨j,x2,t⟩:=N4 q k F r1 hG d
  have:=NZ (S:=λi=>Ha q k F (aV q F i) i) (E:=.x 0 (JM q (aV q F k))) (n0:=16) (k:=k) (c:=aD II 40 4001) (λi hi n e ρ a w hG d b=>JI q k F i hi o hq (p i hi) a_ n e ρ a w A hG d b) (λn e ρ a w hG d b=>N1 q k F _ n e ρ a w hG d b) k 0 O _ (.inr A) n e j a w hG d t
  refine this.mono λx a w m=>?_
  have m:=aQ.ja (x1.trans x2) m
  exact aQ.nG b.heap f.symm m
section
open Go.Proofs Go.Sort Go.Shelf Go.RowKit Go.Lib
def cb(a b:Nat->Int):Nat->Nat->Int
 |0,_=>0
 |d+1,k=>if Lib.compareInt (a k) (b k)=0 then cb a b d (k+1)else Lib.compareInt (a k) (b k)
set_option maxHeartbeats 4000000 in
def FG(b1 o1 c b2 o2 d n:Nat)(xs ys:Nat->Int)(w:World)(hn:n<=9)(hc1:∀j,j<n->w.cell? ⟨b1,o1+j,a_⟩=b_ (.int .i64 (xs j)))(hc2:∀j,j<n->w.cell? ⟨b2,o2+j,a_⟩=b_ (.int .i64 (ys j))):
  Calls Tryz.prog 76 #[.slice (b_ ⟨b1,o1,a_⟩) n c,.slice (b_ ⟨b2,o2,a_⟩) n d] w λe w'=>e= .returned (.int .i64 (cb xs ys n 0))/\w'=w:=by
 go_enter Tryz.func76,Tryz.ntmps76
 go_wp2
 go_loopg [11] n (λg s wr=> ∃k:Nat,k<=n/\n-k<=g/\s= .int .i64 k/\wr=w/\cb xs ys n 0=cb xs ys (n-k) k)
 case atStart=>exact⟨0,Nat.zero_le _,O,rfl,rfl,rfl⟩
 case round=>
  obtain⟨k,hk,hg,rfl,rfl,heq⟩:=hrel
  by_cases hlt:k<n
  ·have g1:=hc1 k hlt
   have g2:=hc2 k hlt
   have hcon:=AnyG.cmp_Compare_int Tryz.wB (xs k) (ys k) wr
   change Calls Tryz.prog 99 _ _ _ at hcon
   have e1:cb xs ys (n-k) k=if Lib.compareInt (xs k) (ys k)=0 then cb xs ys (n-(k+1)) (k+1)else Lib.compareInt (xs k) (ys k):=by
    rw[show n-k=(n-(k+1))+1 by omega];rfl
   rw[e1]at heq
   have a:Aside (cb xs ys n 0=if Lib.compareInt (xs k) (ys k)=0 then cb xs ys (n-(k+1)) (k+1)else Lib.compareInt (xs k) (ys k)):=heq
   clear heq e1 hc1 hc2
   generalize hxk:xs k=x at g1 hcon
   generalize hyk:ys k=y at g2 hcon
   have B:Aside (xs k=x/\ys k=y):=⟨hxk,hyk⟩
   clear hxk hyk
   generalize hr:Lib.compareInt x y=r at hcon
   have D:Aside (Lib.compareInt x y=r):=hr
   clear hr
   by_cases hz:r=0
   ·subst hz
    go_wp2_with (go_at_call 99;refine hcon.mono ?_;rintro e w' ⟨rfl,rfl⟩)
    go_roundg (n-(k+1))
    case measure=>omega
    case rel=>
     refine⟨k+1,O,O,by go_num,rfl,?_⟩
     have:=a.out
     rw[B.out.1,B.out.2,D.out,if_pos A]at this
     exact this
   ·go_wp2_with (go_at_call 99;refine hcon.mono ?_;rintro e w' ⟨rfl,rfl⟩)
    go_ret
    refine⟨?_,rfl⟩
    have:=a.out
    rw[B.out.1,B.out.2,D.out,if_neg hz]at this
    rw[this];rfl
  ·have:k=n:=by omega
   subst this
   clear hc1 hc2
   go_wp2
   go_ret
   refine⟨?_,rfl⟩
   rw[heq,Nat.sub_self]
   rfl
set_option maxHeartbeats 4000000 in
def uF(a1 a2:Option Addr)(c d:Nat)(w:World):Calls Tryz.prog 76 #[.slice a1 0 c,.slice a2 0 d] w λe w'=>e= .returned (.int .i64 0)/\w'=w:=by
 go_enter Tryz.func76,Tryz.ntmps76
 go_wp2
 go_loopg [11] 0 (λ_ s wr=>s= .int .i64 0/\wr=w)
 case atStart=>exact⟨rfl,rfl⟩
 case round=>
  obtain⟨rfl,rfl⟩:=hrel
  go_wp2
  go_ret
  exact⟨rfl,rfl⟩
set_option maxHeartbeats 4000000 in
def FH(b c d f n g h:Nat)(a1 a2:Option Addr)(r:Int)(W:World)(j:W.cell? ⟨b,c,a_⟩=b_ (.slice a1 n g))(k:W.cell? ⟨d,f,a_⟩=b_ (.slice a2 n h))
  (i:∀a,(∃q,a=W.drewN q)->Calls Tryz.prog 76 #[.slice a1 n g,.slice a2 n h] a λe w'=>e= .returned (.int .i64 r)/\w'=a):
  Calls Tryz.prog 94 #[.pointer (b_ ⟨b,c,a_⟩),.pointer (b_ ⟨d,f,a_⟩)] W λe w'=>e= .returned (.int .i64 r)/\∃q,w'=W.drewN q:=by
 go_enter Tryz.func94,Tryz.ntmps94
 go_wp2
 go_quiet (first|(go_at_call 76;refine Calls.quiet_of_same (i _ ⟨_,rfl⟩)))
 go_wp2
 go_ret
 exact⟨rfl,_,rfl⟩
end
section
open Go.Proofs Go.Sort Go.Shelf Go.RowKit Go.Lib
def QY(x y):(Lib.compareInt x y<0)↔x<y:=by
 unfold Lib.compareInt
 omega
def He(x y):(Lib.compareInt x y=0)↔x=y:=by
 unfold Lib.compareInt
 omega
def kT(xs a)(d k):(cb xs a (d+1) k<0)↔(xs k<a k∨(xs k=a k/\cb xs a d (k+1)<0)):=by
 show((if Lib.compareInt (xs k) (a k)=0 then cb xs a d (k+1)else Lib.compareInt (xs k) (a k))<0)↔_
 by_cases h:xs k=a k
 ·rw[if_pos ((He _ _).2 h)]
  omega
 ·rw[if_neg (λe=>h ((He _ _).1 e)),QY]
  omega
def Db(xs):∀d k,¬ cb xs xs d k<0
 |0,k=>by show¬ (0:Int)<0;omega
 |d+1,k=>by
  rw[kT]
  rintro(e|⟨_,e⟩)
  ·omega
  ·exact Db xs d _ e
def xe(xs a zs):∀d k,cb xs a d k<0->cb a zs d k<0->cb xs zs d k<0
 |0,k=>λh=>by have h:(0:Int)<0:=h;omega
 |d+1,k=>by
  rw[kT,kT,kT]
  rintro(e|⟨e,b⟩) (f|⟨f,c⟩)
  ·left;omega
  ·left;omega
  ·left;omega
  ·exact .inr ⟨O,xe xs a zs d _ b c⟩
def um(xs b zs):∀d k,¬ cb xs b d k<0->¬ cb b zs d k<0->¬ cb xs zs d k<0
 |0,k=>λ_ _=>zI
 |d+1,k=>by
  rw[kT,kT,kT]
  intro f g
  rintro(e|⟨e,c⟩)
  omega
  ·by_cases a:xs k=b k
   ·exact um xs b zs d _ O O c
   omega
def Dc(xs b):∀d k,¬ cb xs b d k<0->¬ cb b xs d k<0->∀j,j<d->xs (k+j)=b (k+j)
 |0,k=>O
 |d+1,k=>by
  rw[kT,kT]
  intro c f j g
  have e:xs k=b k:=by
   by_cases a:xs k<b k
   ·omega
   ·omega
  cases j with
  |zero=>exact e
  |succ j=>
   have:=Dc xs b d (k+1) O O j O
   grind
def gw(a:List AV):Nat->Int:=match a with
 |[.fc (.ab _ _ f::_) _]=>aM f
 |_=>λ_=>0
def VX(g:Nat)(a:List AV):Bool:=match a with
 |[.fc (.ab m 1 f::_) 0]=>e_ m g&&bA g f
 |_=>false
def A7(g:Nat)(x y:Nat->Int):Bool:=(z g).all λk=>x k==y k
def pK(g n:Nat)(R:Nat->List AV):Bool:=(z n).all λi=>VX g (R i)&&(z n).all λj=>e_ i j || !A7 g (gw (R i)) (gw (R j))
def xf(a:List AV):AV:=match a with
 |x::_=>x
 |[]=> .any
def lW(g n:Nat)(R:Nat->List AV):List Nat:=(z n).mergeSort λx y=>!decide (cb (gw (R y)) (gw (R x)) g 0<0)
def lX(g n:Nat)(R:Nat->List AV)(i:Nat):List AV:=[xf (R ((lW g n R).getD i 0))]
def Rel.Uy{c ρ H w l n e f g a}(h:Rel c ρ H w)(hl:H.get l= .rows n e f a)(b:∀i,i<n->f i=g i):Rel c ρ (H.set l (.rows n e g a)) w:=by
 have m:rowsOf n f=rowsOf n g:=lR b
 have k:∀j,j≠l->(H.set l (.rows n e g a)).get j=H.get j:=λj e=>AH.pr _ _ (λo=>e o.symm)
 refine h.alike A (λj d=>?_) (λj=>?_) (λj=>?_)
 ·by_cases e:j=l
  ·subst e
   rw[c_]
   rw[hl]at d
   exact⟨λi hi=>by rw[<-b i hi];exact d.1 i hi,by have:=d.2;rwa[m]at this⟩
  grind
 ·by_cases e:j=l
  ·subst e;rw[c_,hl];rfl
  ·rw[k j e]
 ·by_cases e:j=l
  ·subst e;rw[c_,hl];simp
  ·rw[k j e]
def Hf{c ρ H W}(a:Rel c ρ H W){b o vs}(h:qR ρ b o vs){j v}(d:vs[j]? =b_ v):W.cell? ⟨b,o+j,a_⟩=b_ v:=by
 obtain⟨_,pre,rest,rfl,e⟩:=h
 obtain⟨el,fr,g⟩:=a.qY _ _ e
 have f:j<vs.length:=(List.getElem?_eq_some_iff.1 d).1
 unfold World.cell?
 grind
def y5{c:fw}{ρ:Env}{H:AH}{W:World}(s:Rel c ρ H W){g:Nat}{a:List AV}(k:VX g a=true){v:Value}(x:aU ρ a [v]):
  ∃p q l n,v= .pointer (b_ ⟨p,q,a_⟩)/\W.cell? ⟨p,q,a_⟩=b_ (.slice l g n)/\(0<g->∃b o,l=b_ ⟨b,o,a_⟩/\∀j,j<g->W.cell? ⟨b,o+j,a_⟩=b_ (.int .i64 (gw a j))):=by
 unfold VX at k
 split at k
 ·rename_i m f cs
  simp only[bf]at k
  obtain⟨k1,k2⟩:=k
  cases dE k1
  obtain⟨p,o,us,rfl,y,B⟩:=(aU.aL.1 x).1
  obtain⟨u,C,rfl,D,_⟩:=B
  have E:=Hf s y (j:=0) A
  have hi:=kZ k2
  rcases D with⟨L,rfl⟩|⟨b,F,n,l,G,rfl,_,I⟩
  grind
  ·refine⟨p,o,b_ l,n,rfl,E,λh=>?_⟩
   obtain⟨rfl,J,t⟩:=I h
   refine⟨b,F,rfl,λj r=>?_⟩
   have w:=J.row (λi hi=>(t i hi).1) r
   obtain⟨l1,l2⟩:=t j r
   rw[hi j r]at l2
   obtain⟨d,zs,e,K,_⟩:=l2
   rw[Nat.mul_one]at w
   have:=Hf s (ρ:=ρ) w (j:=0) (v:=d) (by rw[e];rfl)
   rw[f_]at this
   rw[this]
   exact congrArg b_ K
 ·cases k
end
end
end Go.Sx
